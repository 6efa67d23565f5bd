-- WRITTEN BY a turned print (wip/tools of the prover's repo)
import Derived.Test.YtlpibelofcabhaaPFnExactEndOkx0
import Derived.Test.YtlpibelofcabhaaPFnExactEndOkx2
import Derived.Test.YtlpibelofcabhaaPFnExactEndOkx4
import Derived.Test.YtlpibelofcabhaaPFnExactEndOkx5
import Derived.Test.YtlpibelofcabhaaPFnExactEndOkx8
namespace Go.Proofs.Ytlpibelofcabhaa.PFnExactEndOk
open Go.RowKit Go.Proofs.YtlpibelofcabhaaW.PrintWords Go.Proofs.YtlpibelofcabhaaW.PrintLast Go.Proofs.YtlpibelofcabhaaW.PrintMore Go.Proofs.Ytlpibelofcabhaa.Lm
attribute [local go_sem] max2_int min2_int max_two min_two max_three min_three max_four min_four   -- for this text's walks alone
set_option linter.unusedVariables false
set_option linter.unusedSimpArgs false

/-! ### laws_toField: function 157 -/
-- thin
def laws_toField.f (a0_0 : ByteArray) (a0_1 : ByteArray) (a0_2 : Bool) : Option (ByteArray × ByteArray × Bool) := some (a0_0, a0_1, a0_2)
set_option maxHeartbeats 8000000 in
set_option maxRecDepth 100000 in
theorem laws_toField.calls (a0_0 : ByteArray) (a0_1 : ByteArray) (a0_2 : Bool) (r1 : ByteArray) (r2 : ByteArray) (r3 : Bool) (w : World) (h : laws_toField.f a0_0 a0_1 a0_2 = some (r1, r2, r3)) :
  Calls Try.prog 157 #[.agg #[.string a0_0, .string a0_1, .bool a0_2]] w fun e w' => e = .returned (.agg #[.string r1, .string r2, .bool r3]) ∧ Below w.heap.size w w' := by
 have hu192 := Try.underlying192
 have hu88 := Try.underlying88
 have HB := Aside0.mk (Below.refl w.heap.size w)
 have H : (some (a0_0, a0_1, a0_2)) = some (r1, r2, r3) := h
 clear h
 simp only [Option.some.injEq, Prod.mk.injEq] at H
 obtain ⟨rfl, rfl, rfl⟩ := H
 go_enter Try.func157, Try.ntmps157
 go_wp2_with (first | ((with_reducible refine gd 1 rfl ?_); refine bx (N := 1) (cs := #[.string a0_0, .string a0_1, .bool a0_2]) (t := 192) ?_; intro gb243 hg w2 hbox hb; have BK243 := Aside0.mk (hbox); have GW243 := gw HB hg; have GE243 := GW243; replace HB := Aside0.mk (below_step (zb HB) hb); clear hb hbox hg) | ((with_reducible refine gd 2 rfl ?_); refine bx (N := 2) (cs := #[.string (⟨#[]⟩ : ByteArray), .string (⟨#[]⟩ : ByteArray), .bool false]) (t := 88) ?_; intro gb244 hg w3 hbox hb; have BK244 := Aside0.mk (hbox); have GW244 := gw HB hg; have GE244 := GW244; replace HB := Aside0.mk (below_step (zb HB) hb); obtain ⟨NB243_244, NB244_243⟩ := nb BK243 hg; replace BK243 := kb BK243 hb; clear hb hbox hg) | ((with_reducible refine gd 3 rfl ?_); refine bx (N := 3) (cs := #[.string (⟨#[]⟩ : ByteArray), .string (⟨#[]⟩ : ByteArray), .bool false]) (t := 88) ?_; intro gb245 hg w4 hbox hb; have BK245 := Aside0.mk (hbox); have GW245 := gw HB hg; have GE245 := GW245; replace HB := Aside0.mk (below_step (zb HB) hb); obtain ⟨NB243_245, NB245_243⟩ := nb BK243 hg; replace BK243 := kb BK243 hb; obtain ⟨NB244_245, NB245_244⟩ := nb BK244 hg; replace BK244 := kb BK244 hb; clear hb hbox hg; have hnb5 := NB243_244.out; have hnc5 := NB244_243.out; have hnb6 := NB243_245.out; have hnc6 := NB245_243.out; obtain ⟨hcz7_0, hcz7_1, hcz7_2, hfz7_0, hfz7_1, hfz7_2⟩ := c3 BK243; have hnb8 := NB245_244.out; have hnc8 := NB244_245.out; obtain ⟨hcz9_0, hcz9_1, hcz9_2, hfz9_0, hfz9_1, hfz9_2⟩ := c3 BK245; obtain ⟨hcz10_0, hcz10_1, hcz10_2, hfz10_0, hfz10_1, hfz10_2⟩ := c3 BK244))
 refine bodyPost_ret (results_cell_row rfl _ _ gb244 88 #[.string a0_0, .string a0_1, .bool a0_2] (0, 0) _ rfl (zp BK244) Try.underlying88 rfl (by kernel_rfl)) rfl ?_
 exact ⟨ze, zb HB⟩

/-! ### laws_toFieldS: function 134 -/
-- thin
def laws_toFieldS.l0 : Nat → List (S192) → List (S88) → Int → Option ((List (S88)))
 | 0, _, _, _ => none
 | k + 1, x0, x3, x4 => if x4 < (x0.length : Int) then (if 0 ≤ x4 then ((laws_toField.f ((rd_T192 x0 x4).f0) ((rd_T192 x0 x4).f1) ((rd_T192 x0 x4).f2)).bind fun bt250 => (if x4 < (x3.length : Int) then (laws_toFieldS.l0 k x0 (x3.set (x4 : Int).toNat (⟨bt250.1, bt250.2.1, bt250.2.2⟩ : S88)) (wrap64 (x4 + 1))) else (none))) else (none)) else (some x3)
def laws_toFieldS.f (k : Nat) (l0 : List (S192)) : Option ((List (S88))) := if 0 ≤ (l0.length : Int) then (if ((l0.length : Int) : Int).toNat ≤ 7036874417766 then (laws_toFieldS.l0 k l0 (List.replicate ((l0.length : Int) : Int).toNat z88) 0) else (none)) else (none)
theorem laws_toFieldS.mono_l : ∀ k, (∀ y0 y1 y2, LeO (laws_toFieldS.l0 k y0 y1 y2) (laws_toFieldS.l0 (k + 1) y0 y1 y2))
 | 0 => fun _ _ _ r h => by simp [laws_toFieldS.l0] at h
 | k + 1 => by
  have ih0 := laws_toFieldS.mono_l k
  ·intro y0 y1 y2
   unfold laws_toFieldS.l0
   exact zm
theorem laws_toFieldS.mono : ∀ a0 k, LeO (laws_toFieldS.f k a0) (laws_toFieldS.f (k + 1) a0) := by
 intro a0 k
 have ih0 := laws_toFieldS.mono_l k
 unfold laws_toFieldS.f
 exact zm
set_option maxHeartbeats 8000000 in
set_option maxRecDepth 100000 in
theorem laws_toFieldS.calls (k : Nat) (A0 : Option Addr) (c0 : Nat) (l0 : List (S192)) (r : List (S88)) (w : World) (hr0 : Kd.C k192 w A0 l0.length l0) (hc0 : l0.length ≤ c0) (h : laws_toFieldS.f k l0 = some r) :
  Calls Try.prog 134 #[.slice A0 l0.length c0] w fun e w' => ∃ v0_ : Value, e = .returned (v0_) ∧ Kd.R k88 88 w' w.heap.size (fun _ => True) v0_ r ∧ Below w.heap.size w w' := by
 have hu192 := Try.underlying192
 have hu88 := Try.underlying88
 have HR0 := Aside0.mk hr0
 have HC0 := Aside0.mk hc0
 clear hr0 hc0
 have HB := Aside0.mk (Below.refl w.heap.size w)
 have H : (if 0 ≤ (l0.length : Int) then (if ((l0.length : Int) : Int).toNat ≤ 7036874417766 then (laws_toFieldS.l0 k l0 (List.replicate ((l0.length : Int) : Int).toNat z88) 0) else (none)) else (none)) = some r := h
 clear h
 replace H := sp H
 rcases H with ⟨c2, H⟩ | ⟨c2, H⟩
 ·skip
  have c2b0 := eq_true c2
  have c2b1 := decide_eq_true c2
  clear c2
  by_cases c3 : ((l0.length : Int) : Int).toNat ≤ 7036874417766
  ·rw [if_pos c3] at H
   have c3b0 := eq_true c3
   have c3b1 := decide_eq_true c3
   clear c3
   obtain ⟨y246, hy246⟩ : ∃ y_ : List (S88), y_ = (List.replicate ((l0.length : Int) : Int).toNat z88) := ⟨_, rfl⟩
   replace H : (laws_toFieldS.l0 k l0 y246 0) = some r := by first | (rw [hy246]; with_reducible exact H) | (have H2_ := (Option.bind_some _ _).symm.trans H; rw [hy246]; with_reducible exact H2_) | (have H2_ := (Option.bind_some _ _).symm.trans H; with_reducible exact H2_) | with_reducible exact H | (rw [hy246]; exact H) | exact H
   have Ny246 := Aside0.mk hy246
   clear hy246
   have H' := Aside0.mk H
   clear H
   go_enter Try.func134, Try.ntmps134
   go_wp2_with (first | ((with_reducible refine gd 7 rfl ?_); refine Kd.R_make k88 _ 88 rfl (N := 7) rfl 23 _ _ rfl (l0.length : Int) rfl rfl Try.underlying23 (.agg #[(.string ⟨#[]⟩), (.string ⟨#[]⟩), (.bool false)]) 40 info88 rfl (by decide) (by omega) z88 (ok := fun _ => True) (okp := fun _ => True) (k88_mkM _ _ _ z88 ) (fun _ hk => hk) trivial (of_decide_eq_true za) (Nat.le_trans (Nat.mul_le_mul_right _ (of_decide_eq_true za : (l0.length : Int).toNat ≤ 7036874417766)) (by omega)) (Below.refl _ _) (Nat.le_refl _) ?_; intro v247 w4 ho5 hb hg_ hnew_; clear hg_ hnew_; (first | rw [← Ny246.out] at ho5 | (simp only [Int.reduceToNat] at ho5; rw [← Ny246.out] at ho5)); have HO248 := Aside0.mk (Kd.R_lower ho5 (below_size (zb HB))); replace HB := Aside0.mk (below_step (zb HB) hb); clear hb ho5))
   go_loopg [4] k (fun kq v4 w' => ∃ (x3_1 : List (S88)) (x4_1 : Int), v4 = .int .i64 x4_1 ∧ Aside0 (laws_toFieldS.l0 kq l0 x3_1 x4_1 = some r) ∧ Aside0 (kq ≤ k) ∧ Aside0 (Kd.R k88 88 w' w.heap.size (fun _ => True) v247 x3_1) ∧ Aside0 (Below w.heap.size w w'))
   case atStart => exact ⟨(y246), (0), zs, H', ⟨Nat.le_refl _⟩, ⟨by exact zr HO248⟩, ⟨zb HB⟩⟩
   case round =>
    clear H'
    try clear c1
    try clear c2
    try clear c2b0
    try clear c2b1
    try clear p2
    try clear c3
    try clear c3b0
    try clear c3b1
    obtain ⟨x3_1, x4_1, rfl, HA, HK1, HO_3, HB⟩ := hrel
    cases gk with
    | zero => exact absurd HA.out (by simp [laws_toFieldS.l0])
    | succ k1 =>
     have H := HA.out
     clear HA
     simp only [laws_toFieldS.l0] at H
     by_cases c6 : x4_1 < (l0.length : Int)
     ·rw [if_pos c6] at H
      have c6b0 := decide_eq_true c6
      clear c6
      by_cases c7 : 0 ≤ x4_1
      ·rw [if_pos c7] at H
       have c7b0 := decide_eq_true c7
       clear c7
       obtain ⟨⟨t250, t251, t252⟩, A8, H⟩ := ob H
       (try dsimp only at H)
       by_cases c9 : x4_1 < (x3_1.length : Int)
       ·rw [if_pos c9] at H
        have c9b0 := decide_eq_true c9
        clear c9
        obtain ⟨y253, hy253⟩ : ∃ y_ : List (S88), y_ = (x3_1.set (x4_1 : Int).toNat (⟨t250, t251, t252⟩ : S88)) := ⟨_, rfl⟩
        replace H : (laws_toFieldS.l0 k1 l0 y253 (wrap64 (x4_1 + 1))) = some r := by first | (rw [hy253]; with_reducible exact H) | (have H2_ := (Option.bind_some _ _).symm.trans H; rw [hy253]; with_reducible exact H2_) | (have H2_ := (Option.bind_some _ _).symm.trans H; with_reducible exact H2_) | with_reducible exact H | (rw [hy253]; exact H) | exact H
        have Ny253 := Aside0.mk hy253
        clear hy253
        have H' := Aside0.mk H
        clear H
        have p249 : 0 ≤ (x4_1 : Int) := of_decide_eq_true za
        have q249 : x4_1 < (l0.length : Int) := of_decide_eq_true za
        obtain ⟨ad249, e249, hx249_0, hx249_1, hx249_2⟩ := at_T192 HR0.out x4_1 p249 q249
        cases e249
        replace hx249_0 := cb0 hx249_0 HB
        replace hx249_1 := cb0 hx249_1 HB
        replace hx249_2 := cb0 hx249_2 HB
        replace p249 := eq_true p249
        replace q249 := eq_true q249
        go_wp2_with (first | ((with_reducible refine gq 157 rfl ?_); refine gl (some 20) Try.func157 #[.agg #[.string ((rd_T192 l0 x4_1).f0), .string ((rd_T192 l0 x4_1).f1), .bool ((rd_T192 l0 x4_1).f2)]] ?_; (with_reducible refine (laws_toField.calls ((rd_T192 l0 x4_1).f0) ((rd_T192 l0 x4_1).f1) ((rd_T192 l0 x4_1).f2) t250 t251 t252 _ A8.out).mono ?_); rintro e w11 ⟨rfl, hb⟩; refine ⟨_, rfl, ?_⟩; replace HO_3 := Aside0.mk (Kd.R_below (zr HO_3) hb); replace HB := Aside0.mk (below_step (zb HB) hb); (try clear hb); have p10 : 0 ≤ (x4_1 : Int) := of_decide_eq_true za; have q10 : (x4_1 : Int) < ((x3_1.length : Int) : Int) := of_decide_eq_true za; obtain ⟨go10, co10, eo10, gb10, gl10, cl10, HG10⟩ := Kd.R_form HO_3.out (by omega); (first | cases eo10 | (injection eo10 with ea_ en_ ec_; (first | subst ea_ | (injection ea_ with ea_; subst ea_)); subst ec_; clear en_)); have GB10 := Aside0.mk gb10; have GG10 := Aside0.mk HG10; clear gb10 gl10 HG10; obtain ⟨ce10, hcl10, hM10, hcc10, hfr10⟩ := Kd.R_elem HO_3.out z88 (x4_1 : Int) p10 q10; obtain rfl := k88_openM hM10; have hx10_0 : w11.cell? ⟨go10, (x4_1 : Int).toNat * 3, none⟩ = some (.string ((rd_T88 x3_1 x4_1).f0)) := hcc10 0 _ rfl; have hx10_1 : w11.cell? ⟨go10, (x4_1 : Int).toNat * 3 + 1, none⟩ = some (.string ((rd_T88 x3_1 x4_1).f1)) := hcc10 1 _ rfl; have hx10_2 : w11.cell? ⟨go10, (x4_1 : Int).toNat * 3 + 2, none⟩ = some (.bool ((rd_T88 x3_1 x4_1).f2)) := hcc10 2 _ rfl; have hf10_0 : w11.frozen? ⟨go10, (x4_1 : Int).toNat * 3, none⟩ = false := hfr10 0; have hf10_1 : w11.frozen? ⟨go10, (x4_1 : Int).toNat * 3 + 1, none⟩ = false := hfr10 1; have hf10_2 : w11.frozen? ⟨go10, (x4_1 : Int).toNat * 3 + 2, none⟩ = false := hfr10 2; clear hcl10 hcc10 hfr10 hM10; replace p10 := eq_true p10; replace q10 := eq_true q10; have HX12 := Aside0.mk (show Kd.R k88 88 w11 w.heap.size (fun _ => True) (.slice (some ⟨go10, 0, none⟩) x3_1.length co10) x3_1 from (zr HO_3)); obtain ⟨ce12, hcl12, hM12, hcc12, hfr12⟩ := Kd.R_elem HX12.out z88 (x4_1 : Int) (of_decide_eq_true za) (by have h_ : (x4_1 : Int) < ((x3_1.length : Int) : Int) := of_decide_eq_true za; first | exact h_ | (have e_ := (Kd.R_reads' HO_3.out).1; omega) | simpa using h_); obtain rfl := k88_openM hM12; have HP12 := Kd.R_seg HX12.out (x4_1 : Int) (of_decide_eq_true za) (by have h_ : (x4_1 : Int) < ((x3_1.length : Int) : Int) := of_decide_eq_true za; first | exact h_ | (have e_ := (Kd.R_reads' HO_3.out).1; omega) | simpa using h_) (seg := [.string t250, .string t251, .bool t252]) (j := 0) hcl12 hcc12 (show 3 ≤ 3 from by decide) (x' := (⟨t250, t251, t252⟩ : S88)) (k88_mkM _ _ _ (⟨t250, t251, t252⟩ : S88) ) (fun _ hk => hk); have hx12_0 := hcc12 0 _ rfl; (try simp only [show (k88).sz = 3 from rfl, Nat.mul_one, Nat.add_zero] at hx12_0); have hf12_0 := hfr12 0; (try simp only [show (k88).sz = 3 from rfl, Nat.mul_one, Nat.add_zero] at hf12_0); have hx12_1 := hcc12 1 _ rfl; (try simp only [show (k88).sz = 3 from rfl, Nat.mul_one, Nat.add_zero] at hx12_1); have hf12_1 := hfr12 1; (try simp only [show (k88).sz = 3 from rfl, Nat.mul_one, Nat.add_zero] at hf12_1); have hx12_2 := hcc12 2 _ rfl; (try simp only [show (k88).sz = 3 from rfl, Nat.mul_one, Nat.add_zero] at hx12_2); have hf12_2 := hfr12 2; (try simp only [show (k88).sz = 3 from rfl, Nat.mul_one, Nat.add_zero] at hf12_2); clear hcl12 hcc12 hfr12 hM12) | ((with_reducible refine gate_store (t := 88) (p := 21) rfl ?_); refine store_event (t := 88) (p := 21) (v := ?vo_w13) (w1 := (((w11.setCell ⟨go10, (x4_1 : Int).toNat * 3, none⟩ (.string t250)).setCell ⟨go10, (x4_1 : Int).toNat * 3 + 1, none⟩ (.string t251)).setCell ⟨go10, (x4_1 : Int).toNat * 3 + 2, none⟩ (.bool t252))) ?hg ?ho ?hn ?hr ?_; (case ho => rfl); (case hg => rfl); (case hn => rfl); (case hr => first | (go_simp; done) | (go_simp; rfl)); intro w13 hw; have hg : w11.grownBy w13 (some go10) := (by rw [hw]; exact HP12.2); have hp_ : Kd.R k88 88 w13 w.heap.size (fun _ => True) (.slice (some ⟨go10, 0, none⟩) x3_1.length co10) y253 := (by rw [hw, Ny253.out]; exact HP12.1); clear HP12; replace HO_3 := Aside0.mk (hp_); replace HB := Aside0.mk ((by rw [hw]; exact below_set (below_set (below_set (HB.out) GB10.out) GB10.out) GB10.out : Below w.heap.size w w13)); clear hg hw hp_))
        go_roundg k1
        case measure => have := HK1.out; omega
        case rel => exact ⟨(y253), (wrap64 (x4_1 + 1)), zs, H', ⟨by have := HK1.out; omega⟩, ⟨by exact zr HO_3⟩, ⟨zb HB⟩⟩
       ·rw [if_neg c9] at H
        exact absurd H (by simp)
      ·rw [if_neg c7] at H
       exact absurd H (by simp)
     ·rw [if_neg c6] at H
      have c6b0 := decide_eq_false c6
      clear c6
      obtain rfl := Option.some.inj H
      go_wp2
      go_ret
      exact ⟨_, ze, zq (HO_3.out), zb HB⟩
  ·rw [if_neg c3] at H
   exact absurd H (by simp)
 ·skip
  exact absurd H (by simp)

/-! ### laws_toTable: function 95 -/
-- thin
def laws_toTable.f (k : Nat) (l0_0 : List (S192)) (a0_1 : Int) : Option ((List (S88)) × Int) := (laws_toFieldS.f k l0_0).bind fun t257 => (some (t257, a0_1))
theorem laws_toTable.mono : ∀ a0 a1 k, LeO (laws_toTable.f k a0 a1) (laws_toTable.f (k + 1) a0 a1) := by
 intro a0 a1 k
 unfold laws_toTable.f
 have m0 := @laws_toFieldS.mono
 exact zm
set_option maxHeartbeats 8000000 in
set_option maxRecDepth 100000 in
theorem laws_toTable.calls (k : Nat) (A0_0 : Option Addr) (c0_0 : Nat) (l0_0 : List (S192)) (a0_1 : Int) (r1 : List (S88)) (r2 : Int) (w : World) (hr0_0 : Kd.C k192 w A0_0 l0_0.length l0_0) (hc0_0 : l0_0.length ≤ c0_0) (h : laws_toTable.f k l0_0 a0_1 = some (r1, r2)) :
  Calls Try.prog 95 #[.agg #[.slice A0_0 l0_0.length c0_0, .int .i64 a0_1]] w fun e w' => ∃ v0_ : Value, e = .returned (.agg #[v0_, .int .i64 r2]) ∧ Kd.R k88 88 w' w.heap.size (fun _ => True) v0_ r1 ∧ Below w.heap.size w w' := by
 have hu59 := Try.underlying59
 have hu25 := Try.underlying25
 have HR0_0 := Aside0.mk hr0_0
 have HC0_0 := Aside0.mk hc0_0
 clear hr0_0 hc0_0
 have HB := Aside0.mk (Below.refl w.heap.size w)
 have H : ((laws_toFieldS.f k l0_0).bind fun t257 => (some (t257, a0_1))) = some (r1, r2) := h
 clear h
 obtain ⟨t257, A2, H⟩ := ob H
 (try dsimp only at H)
 simp only [Option.some.injEq, Prod.mk.injEq] at H
 obtain ⟨rfl, rfl⟩ := H
 go_enter Try.func95, Try.ntmps95
 go_wp2_with (first | ((with_reducible refine gd 1 rfl ?_); refine bx (N := 1) (cs := #[.slice A0_0 l0_0.length c0_0, .int .i64 a0_1]) (t := 59) ?_; intro gb254 hg w3 hbox hb; have BK254 := Aside0.mk (hbox); have GW254 := gw HB hg; have GE254 := GW254; replace HB := Aside0.mk (below_step (zb HB) hb); clear hb hbox hg) | ((with_reducible refine gd 2 rfl ?_); refine bx (N := 2) (cs := #[.slice none 0 0, .int .i64 0]) (t := 25) ?_; intro gb255 hg w4 hbox hb; have BK255 := Aside0.mk (hbox); have GW255 := gw HB hg; have GE255 := GW255; replace HB := Aside0.mk (below_step (zb HB) hb); obtain ⟨NB254_255, NB255_254⟩ := nb BK254 hg; replace BK254 := kb BK254 hb; clear hb hbox hg) | ((with_reducible refine gd 3 rfl ?_); refine bx (N := 3) (cs := #[.slice none 0 0, .int .i64 0]) (t := 25) ?_; intro gb256 hg w5 hbox hb; have BK256 := Aside0.mk (hbox); have GW256 := gw HB hg; have GE256 := GW256; replace HB := Aside0.mk (below_step (zb HB) hb); obtain ⟨NB254_256, NB256_254⟩ := nb BK254 hg; replace BK254 := kb BK254 hb; obtain ⟨NB255_256, NB256_255⟩ := nb BK255 hg; replace BK255 := kb BK255 hb; clear hb hbox hg; have hnb6 := NB254_255.out; have hnc6 := NB255_254.out; have hnb7 := NB254_256.out; have hnc7 := NB256_254.out; obtain ⟨hcz8_0, hcz8_1, hfz8_0, hfz8_1⟩ := c2 BK254) | ((with_reducible refine gq 134 rfl ?_); refine gl (some 6) Try.func134 #[.slice A0_0 l0_0.length c0_0] ?_; (with_reducible refine (laws_toFieldS.calls k _ _ l0_0 t257 _ ?side1 ?side2 A2.out).mono ?_); (case side1 => exact zc (Kd.C_below HR0_0.out HB.out)); (case side2 => exact HC0_0.out); rintro e w9 ⟨v258, rfl, ho0, hb⟩; refine ⟨_, rfl, ?_⟩; have HO259 := Aside0.mk (Kd.R_lower ho0 (below_size (zb HB))); replace BK254 := kb BK254 hb; replace BK255 := kb BK255 hb; replace BK256 := kb BK256 hb; replace HB := Aside0.mk (below_step (zb HB) hb); (try clear hb); (try clear ho0); obtain ⟨Ao10, co10, eo10⟩ := Kd.R_slice HO259.out; subst eo10; have hnb11 := NB256_255.out; have hnc11 := NB255_256.out; obtain ⟨hcz12_0, hcz12_1, hfz12_0, hfz12_1⟩ := c2 BK256; obtain ⟨hcz13_0, hcz13_1, hfz13_0, hfz13_1⟩ := c2 BK254; obtain ⟨hcz14_0, hcz14_1, hfz14_0, hfz14_1⟩ := c2 BK255))
 refine bodyPost_ret (results_cell_row rfl _ _ gb255 25 #[.slice Ao10 t257.length co10, .int .i64 a0_1] (0, 0) _ rfl (zp BK255) Try.underlying25 rfl (by kernel_rfl)) rfl ?_
 exact ⟨_, ze, zq (Kd.R_mono (Kd.R_far (p := ⟨gb255, 1, none⟩) (Kd.R_far (p := ⟨gb255, 0, none⟩) (Kd.R_far (p := ⟨gb256, 1, none⟩) (Kd.R_far (p := ⟨gb256, 0, none⟩) (Kd.R_types (Kd.R_types HO259.out BK256.out (by decide)) BK255.out (by decide)) (fun _ hk => hk.1.2) (.slice Ao10 t257.length co10)) (fun _ hk => hk.1.2) (.int .i64 a0_1)) (fun _ hk => hk.2) (.slice Ao10 t257.length co10)) (fun _ hk => hk.2) (.int .i64 a0_1)) (fun _ hk => trivial)), zb HB⟩

/-! ### laws_toFlow: function 97 -/
-- thin
def laws_toFlow.f (a0_0 : Int) (a0_1 : Int) : Option (Int × Int) := some (a0_0, a0_1)
set_option maxHeartbeats 8000000 in
set_option maxRecDepth 100000 in
theorem laws_toFlow.calls (a0_0 : Int) (a0_1 : Int) (r1 : Int) (r2 : Int) (w : World) (h : laws_toFlow.f a0_0 a0_1 = some (r1, r2)) :
  Calls Try.prog 97 #[.agg #[.int .i64 a0_0, .int .i64 a0_1]] w fun e w' => e = .returned (.agg #[.int .i64 r1, .int .i64 r2]) ∧ Below w.heap.size w w' := by
 have hu61 := Try.underlying61
 have hu39 := Try.underlying39
 have HB := Aside0.mk (Below.refl w.heap.size w)
 have H : (some (a0_0, a0_1)) = some (r1, r2) := h
 clear h
 simp only [Option.some.injEq, Prod.mk.injEq] at H
 obtain ⟨rfl, rfl⟩ := H
 go_enter Try.func97, Try.ntmps97
 go_wp2_with (first | ((with_reducible refine gd 1 rfl ?_); refine bx (N := 1) (cs := #[.int .i64 a0_0, .int .i64 a0_1]) (t := 61) ?_; intro gb260 hg w2 hbox hb; have BK260 := Aside0.mk (hbox); have GW260 := gw HB hg; have GE260 := GW260; replace HB := Aside0.mk (below_step (zb HB) hb); clear hb hbox hg) | ((with_reducible refine gd 2 rfl ?_); refine bx (N := 2) (cs := #[.int .i64 0, .int .i64 0]) (t := 39) ?_; intro gb261 hg w3 hbox hb; have BK261 := Aside0.mk (hbox); have GW261 := gw HB hg; have GE261 := GW261; replace HB := Aside0.mk (below_step (zb HB) hb); obtain ⟨NB260_261, NB261_260⟩ := nb BK260 hg; replace BK260 := kb BK260 hb; clear hb hbox hg) | ((with_reducible refine gd 3 rfl ?_); refine bx (N := 3) (cs := #[.int .i64 0, .int .i64 0]) (t := 39) ?_; intro gb262 hg w4 hbox hb; have BK262 := Aside0.mk (hbox); have GW262 := gw HB hg; have GE262 := GW262; replace HB := Aside0.mk (below_step (zb HB) hb); obtain ⟨NB260_262, NB262_260⟩ := nb BK260 hg; replace BK260 := kb BK260 hb; obtain ⟨NB261_262, NB262_261⟩ := nb BK261 hg; replace BK261 := kb BK261 hb; clear hb hbox hg; have hnb5 := NB260_261.out; have hnc5 := NB261_260.out; have hnb6 := NB260_262.out; have hnc6 := NB262_260.out; obtain ⟨hcz7_0, hcz7_1, hfz7_0, hfz7_1⟩ := c2 BK260; have hnb8 := NB262_261.out; have hnc8 := NB261_262.out; obtain ⟨hcz9_0, hcz9_1, hfz9_0, hfz9_1⟩ := c2 BK262; obtain ⟨hcz10_0, hcz10_1, hfz10_0, hfz10_1⟩ := c2 BK261))
 refine bodyPost_ret (results_cell_row rfl _ _ gb261 39 #[.int .i64 a0_0, .int .i64 a0_1] (0, 0) _ rfl (zp BK261) Try.underlying39 rfl (by kernel_rfl)) rfl ?_
 exact ⟨ze, zb HB⟩

/-! ### laws_toStream: function 135 -/
-- thin
def laws_toStream.f (k : Nat) (a0_0 : Int) (a0_1 : Int) (l0_2 : List (S192)) (a0_3 : ByteArray) (a0_4 : Bool) (a0_5 : Bool) (a0_6 : Int) (l0_7 : List (S192)) (a0_8 : ByteArray) (a0_9 : Bool) (a0_10 : Int) (a0_11 : Int) : Option (Int × Int × (List (S88)) × ByteArray × Bool × Bool × Int × (List (S88)) × ByteArray × Bool × Int × Int) := (laws_toFieldS.f k l0_2).bind fun t266 => ((laws_toFieldS.f k l0_7).bind fun t269 => ((laws_toFlow.f a0_10 a0_11).bind fun bt272 => (some (a0_0, a0_1, t266, a0_3, a0_4, a0_5, a0_6, t269, a0_8, a0_9, bt272.1, bt272.2))))
theorem laws_toStream.mono : ∀ a0 a1 a2 a3 a4 a5 a6 a7 a8 a9 a10 a11 k, LeO (laws_toStream.f k a0 a1 a2 a3 a4 a5 a6 a7 a8 a9 a10 a11) (laws_toStream.f (k + 1) a0 a1 a2 a3 a4 a5 a6 a7 a8 a9 a10 a11) := by
 intro a0 a1 a2 a3 a4 a5 a6 a7 a8 a9 a10 a11 k
 unfold laws_toStream.f
 have m0 := @laws_toFieldS.mono
 exact zm
set_option maxHeartbeats 8000000 in
set_option maxRecDepth 100000 in
theorem laws_toStream.calls (k : Nat) (a0_0 : Int) (a0_1 : Int) (A0_2 : Option Addr) (c0_2 : Nat) (l0_2 : List (S192)) (a0_3 : ByteArray) (a0_4 : Bool) (a0_5 : Bool) (a0_6 : Int) (A0_7 : Option Addr) (c0_7 : Nat) (l0_7 : List (S192)) (a0_8 : ByteArray) (a0_9 : Bool) (a0_10 : Int) (a0_11 : Int) (r1 : Int) (r2 : Int) (r3 : List (S88)) (r4 : ByteArray) (r5 : Bool) (r6 : Bool) (r7 : Int) (r8 : List (S88)) (r9 : ByteArray) (r10 : Bool) (r11 : Int) (r12 : Int) (w : World) (hr0_2 : Kd.C k192 w A0_2 l0_2.length l0_2) (hc0_2 : l0_2.length ≤ c0_2) (hr0_7 : Kd.C k192 w A0_7 l0_7.length l0_7) (hc0_7 : l0_7.length ≤ c0_7) (h : laws_toStream.f k a0_0 a0_1 l0_2 a0_3 a0_4 a0_5 a0_6 l0_7 a0_8 a0_9 a0_10 a0_11 = some (r1, r2, r3, r4, r5, r6, r7, r8, r9, r10, r11, r12)) :
  Calls Try.prog 135 #[.agg #[.int .i64 a0_0, .int .i64 a0_1, .slice A0_2 l0_2.length c0_2, .string a0_3, .bool a0_4, .bool a0_5, .int .i64 a0_6, .slice A0_7 l0_7.length c0_7, .string a0_8, .bool a0_9, .int .i64 a0_10, .int .i64 a0_11]] w fun e w' => ∃ v2_ v7_ : Value, e = .returned (.agg #[.int .i64 r1, .int .i64 r2, v2_, .string r4, .bool r5, .bool r6, .int .i64 r7, v7_, .string r9, .bool r10, .int .i64 r11, .int .i64 r12]) ∧ Kd.R k88 88 w' w.heap.size (fun k_ => some k_ ≠ (v7_ : Value).ownBlock) v2_ r3 ∧ Kd.R k88 88 w' w.heap.size (fun k_ => some k_ ≠ (v2_ : Value).ownBlock) v7_ r8 ∧ Below w.heap.size w w' := by
 have hu167 := Try.underlying167
 have hu104 := Try.underlying104
 have hu61 := Try.underlying61
 have hu39 := Try.underlying39
 have HR0_2 := Aside0.mk hr0_2
 have HC0_2 := Aside0.mk hc0_2
 clear hr0_2 hc0_2
 have HR0_7 := Aside0.mk hr0_7
 have HC0_7 := Aside0.mk hc0_7
 clear hr0_7 hc0_7
 have HB := Aside0.mk (Below.refl w.heap.size w)
 have H : ((laws_toFieldS.f k l0_2).bind fun t266 => ((laws_toFieldS.f k l0_7).bind fun t269 => ((laws_toFlow.f a0_10 a0_11).bind fun bt272 => (some (a0_0, a0_1, t266, a0_3, a0_4, a0_5, a0_6, t269, a0_8, a0_9, bt272.1, bt272.2))))) = some (r1, r2, r3, r4, r5, r6, r7, r8, r9, r10, r11, r12) := h
 clear h
 obtain ⟨t266, A2, H⟩ := ob H
 (try dsimp only at H)
 obtain ⟨t269, A3, H⟩ := ob H
 (try dsimp only at H)
 obtain ⟨⟨t272, t273⟩, A4, H⟩ := ob H
 (try dsimp only at H)
 simp only [Option.some.injEq, Prod.mk.injEq] at H
 obtain ⟨rfl, rfl, rfl, rfl, rfl, rfl, rfl, rfl, rfl, rfl, rfl, rfl⟩ := H
 go_enter Try.func135, Try.ntmps135
 go_wp2_with (first | ((with_reducible refine gd 1 rfl ?_); refine bx (N := 1) (cs := #[.int .i64 a0_0, .int .i64 a0_1, .slice A0_2 l0_2.length c0_2, .string a0_3, .bool a0_4, .bool a0_5, .int .i64 a0_6, .slice A0_7 l0_7.length c0_7, .string a0_8, .bool a0_9, .int .i64 a0_10, .int .i64 a0_11]) (t := 167) ?_; intro gb263 hg w5 hbox hb; have BK263 := Aside0.mk (hbox); have GW263 := gw HB hg; have GE263 := GW263; replace HB := Aside0.mk (below_step (zb HB) hb); clear hb hbox hg) | ((with_reducible refine gd 2 rfl ?_); refine bx (N := 2) (cs := #[.int .i64 0, .int .i64 0, .slice none 0 0, .string (⟨#[]⟩ : ByteArray), .bool false, .bool false, .int .i64 0, .slice none 0 0, .string (⟨#[]⟩ : ByteArray), .bool false, .int .i64 0, .int .i64 0]) (t := 104) ?_; intro gb264 hg w6 hbox hb; have BK264 := Aside0.mk (hbox); have GW264 := gw HB hg; have GE264 := GW264; replace HB := Aside0.mk (below_step (zb HB) hb); obtain ⟨NB263_264, NB264_263⟩ := nb BK263 hg; replace BK263 := kb BK263 hb; clear hb hbox hg) | ((with_reducible refine gd 3 rfl ?_); refine bx (N := 3) (cs := #[.int .i64 0, .int .i64 0, .slice none 0 0, .string (⟨#[]⟩ : ByteArray), .bool false, .bool false, .int .i64 0, .slice none 0 0, .string (⟨#[]⟩ : ByteArray), .bool false, .int .i64 0, .int .i64 0]) (t := 104) ?_; intro gb265 hg w7 hbox hb; have BK265 := Aside0.mk (hbox); have GW265 := gw HB hg; have GE265 := GW265; replace HB := Aside0.mk (below_step (zb HB) hb); obtain ⟨NB263_265, NB265_263⟩ := nb BK263 hg; replace BK263 := kb BK263 hb; obtain ⟨NB264_265, NB265_264⟩ := nb BK264 hg; replace BK264 := kb BK264 hb; clear hb hbox hg; have hnb8 := NB263_264.out; have hnc8 := NB264_263.out; have hnb9 := NB263_265.out; have hnc9 := NB265_263.out; obtain ⟨hcz10_0, hcz10_1, hcz10_2, hcz10_3, hcz10_4, hcz10_5, hcz10_6, hcz10_7, hcz10_8, hcz10_9, hcz10_10, hcz10_11, hfz10_0, hfz10_1, hfz10_2, hfz10_3, hfz10_4, hfz10_5, hfz10_6, hfz10_7, hfz10_8, hfz10_9, hfz10_10, hfz10_11⟩ := c12 BK263; have hnb11 := NB265_264.out; have hnc11 := NB264_265.out; obtain ⟨hcz12_0, hcz12_1, hcz12_2, hcz12_3, hcz12_4, hcz12_5, hcz12_6, hcz12_7, hcz12_8, hcz12_9, hcz12_10, hcz12_11, hfz12_0, hfz12_1, hfz12_2, hfz12_3, hfz12_4, hfz12_5, hfz12_6, hfz12_7, hfz12_8, hfz12_9, hfz12_10, hfz12_11⟩ := c12 BK265) | ((with_reducible refine gq 134 rfl ?_); refine gl (some 12) Try.func134 #[.slice A0_2 l0_2.length c0_2] ?_; (with_reducible refine (laws_toFieldS.calls k _ _ l0_2 t266 _ ?side1 ?side2 A2.out).mono ?_); (case side1 => exact Kd.C_below HR0_2.out (zb HB)); (case side2 => exact HC0_2.out); rintro e w13 ⟨v267, rfl, ho0, hb⟩; refine ⟨_, rfl, ?_⟩; have HO268 := Aside0.mk (Kd.R_lower ho0 (below_size (zb HB))); replace BK263 := Aside0.mk (blk_below (g := gb263) (o := .cells #[.int .i64 a0_0, .int .i64 a0_1, .slice A0_2 l0_2.length c0_2, .string a0_3, .bool a0_4, .bool a0_5, .int .i64 a0_6, .slice A0_7 l0_7.length c0_7, .string a0_8, .bool a0_9, .int .i64 a0_10, .int .i64 a0_11] 167 (0, 0)) (zp BK263) hb); replace BK264 := Aside0.mk (blk_below (g := gb264) (o := .cells #[.int .i64 0, .int .i64 0, .slice none 0 0, .string (⟨#[]⟩ : ByteArray), .bool false, .bool false, .int .i64 0, .slice none 0 0, .string (⟨#[]⟩ : ByteArray), .bool false, .int .i64 0, .int .i64 0] 104 (0, 0)) (zp BK264) hb); replace BK265 := Aside0.mk (blk_below (g := gb265) (o := .cells #[.int .i64 a0_0, .int .i64 a0_1, .slice none 0 0, .string (⟨#[]⟩ : ByteArray), .bool false, .bool false, .int .i64 0, .slice none 0 0, .string (⟨#[]⟩ : ByteArray), .bool false, .int .i64 0, .int .i64 0] 104 (0, 0)) (zp BK265) hb); replace HB := Aside0.mk (below_step (zb HB) hb); (try clear hb); (try clear ho0); obtain ⟨Ao14, co14, eo14⟩ := Kd.R_slice HO268.out; subst eo14; obtain ⟨hcz15_0, hcz15_1, hcz15_2, hcz15_3, hcz15_4, hcz15_5, hcz15_6, hcz15_7, hcz15_8, hcz15_9, hcz15_10, hcz15_11, hfz15_0, hfz15_1, hfz15_2, hfz15_3, hfz15_4, hfz15_5, hfz15_6, hfz15_7, hfz15_8, hfz15_9, hfz15_10, hfz15_11⟩ := c12 BK265; obtain ⟨hcz16_0, hcz16_1, hcz16_2, hcz16_3, hcz16_4, hcz16_5, hcz16_6, hcz16_7, hcz16_8, hcz16_9, hcz16_10, hcz16_11, hfz16_0, hfz16_1, hfz16_2, hfz16_3, hfz16_4, hfz16_5, hfz16_6, hfz16_7, hfz16_8, hfz16_9, hfz16_10, hfz16_11⟩ := c12 BK263) | ((with_reducible refine gq 134 rfl ?_); refine gl (some 28) Try.func134 #[.slice A0_7 l0_7.length c0_7] ?_; (with_reducible refine (laws_toFieldS.calls k _ _ l0_7 t269 _ ?side1 ?side2 A3.out).mono ?_); (case side1 => exact Kd.C_below HR0_7.out (zb HB)); (case side2 => exact HC0_7.out); rintro e w17 ⟨v270, rfl, ho0, hb⟩; refine ⟨_, rfl, ?_⟩; have HO271 := Aside0.mk (Kd.R_lower (Kd.R_new' ho0 (Kd.R_lt (zq ((Kd.R_mono (Kd.R_far (p := ⟨gb265, 6, none⟩) (Kd.R_far (p := ⟨gb265, 5, none⟩) (Kd.R_far (p := ⟨gb265, 4, none⟩) (Kd.R_far (p := ⟨gb265, 3, none⟩) (Kd.R_far (p := ⟨gb265, 2, none⟩) (Kd.R_types HO268.out BK265.out (by decide)) (fun _ hk => hk.2) (.slice Ao14 t266.length co14)) (fun _ hk => hk.2) (.string a0_3)) (fun _ hk => hk.2) (.bool a0_4)) (fun _ hk => hk.2) (.bool a0_5)) (fun _ hk => hk.2) (.int .i64 a0_6)) (fun _ h_ => h_.1)))))) (below_size (zb HB))); replace HO268 := Aside0.mk (Kd.R_elder' (zq ((Kd.R_mono (Kd.R_far (p := ⟨gb265, 6, none⟩) (Kd.R_far (p := ⟨gb265, 5, none⟩) (Kd.R_far (p := ⟨gb265, 4, none⟩) (Kd.R_far (p := ⟨gb265, 3, none⟩) (Kd.R_far (p := ⟨gb265, 2, none⟩) (Kd.R_types HO268.out BK265.out (by decide)) (fun _ hk => hk.2) (.slice Ao14 t266.length co14)) (fun _ hk => hk.2) (.string a0_3)) (fun _ hk => hk.2) (.bool a0_4)) (fun _ hk => hk.2) (.bool a0_5)) (fun _ hk => hk.2) (.int .i64 a0_6)) (fun _ h_ => h_.1)))) (Kd.R_base ho0) hb); replace BK263 := Aside0.mk (blk_below (g := gb263) (o := .cells #[.int .i64 a0_0, .int .i64 a0_1, .slice A0_2 l0_2.length c0_2, .string a0_3, .bool a0_4, .bool a0_5, .int .i64 a0_6, .slice A0_7 l0_7.length c0_7, .string a0_8, .bool a0_9, .int .i64 a0_10, .int .i64 a0_11] 167 (0, 0)) (zp BK263) hb); replace BK264 := Aside0.mk (blk_below (g := gb264) (o := .cells #[.int .i64 0, .int .i64 0, .slice none 0 0, .string (⟨#[]⟩ : ByteArray), .bool false, .bool false, .int .i64 0, .slice none 0 0, .string (⟨#[]⟩ : ByteArray), .bool false, .int .i64 0, .int .i64 0] 104 (0, 0)) (zp BK264) hb); replace BK265 := Aside0.mk (blk_below (g := gb265) (o := .cells #[.int .i64 a0_0, .int .i64 a0_1, .slice Ao14 t266.length co14, .string a0_3, .bool a0_4, .bool a0_5, .int .i64 a0_6, .slice none 0 0, .string (⟨#[]⟩ : ByteArray), .bool false, .int .i64 0, .int .i64 0] 104 (0, 0)) (zp BK265) hb); replace HB := Aside0.mk (below_step (zb HB) hb); (try clear hb); (try clear ho0); obtain ⟨Ao18, co18, eo18⟩ := Kd.R_slice HO271.out; subst eo18; obtain ⟨hcz19_0, hcz19_1, hcz19_2, hcz19_3, hcz19_4, hcz19_5, hcz19_6, hcz19_7, hcz19_8, hcz19_9, hcz19_10, hcz19_11, hfz19_0, hfz19_1, hfz19_2, hfz19_3, hfz19_4, hfz19_5, hfz19_6, hfz19_7, hfz19_8, hfz19_9, hfz19_10, hfz19_11⟩ := c12 BK265; obtain ⟨hcz20_0, hcz20_1, hcz20_2, hcz20_3, hcz20_4, hcz20_5, hcz20_6, hcz20_7, hcz20_8, hcz20_9, hcz20_10, hcz20_11, hfz20_0, hfz20_1, hfz20_2, hfz20_3, hfz20_4, hfz20_5, hfz20_6, hfz20_7, hfz20_8, hfz20_9, hfz20_10, hfz20_11⟩ := c12 BK263) | ((with_reducible refine gq 97 rfl ?_); refine gl (some 38) Try.func97 #[.agg #[.int .i64 a0_10, .int .i64 a0_11]] ?_; (with_reducible refine (laws_toFlow.calls a0_10 a0_11 t272 t273 _ A4.out).mono ?_); rintro e w21 ⟨rfl, hb⟩; refine ⟨_, rfl, ?_⟩; replace HO268 := Aside0.mk (Kd.R_below (zq ((Kd.R_mono (Kd.R_far (p := ⟨gb265, 9, none⟩) (Kd.R_far (p := ⟨gb265, 8, none⟩) (Kd.R_far (p := ⟨gb265, 7, none⟩) (Kd.R_types HO268.out BK265.out (by decide)) (fun _ hk => hk.2) (.slice Ao18 t269.length co18)) (fun _ hk => hk.2) (.string a0_8)) (fun _ hk => hk.2) (.bool a0_9)) (fun _ h_ => h_.1)))) hb); replace HO271 := Aside0.mk (Kd.R_below (zq ((Kd.R_mono (Kd.R_far (p := ⟨gb265, 9, none⟩) (Kd.R_far (p := ⟨gb265, 8, none⟩) (Kd.R_far (p := ⟨gb265, 7, none⟩) (Kd.R_types HO271.out BK265.out (by decide)) (fun _ hk => hk.2) (.slice Ao18 t269.length co18)) (fun _ hk => hk.2) (.string a0_8)) (fun _ hk => hk.2) (.bool a0_9)) (fun _ h_ => h_.1)))) hb); replace BK263 := Aside0.mk (blk_below (g := gb263) (o := .cells #[.int .i64 a0_0, .int .i64 a0_1, .slice A0_2 l0_2.length c0_2, .string a0_3, .bool a0_4, .bool a0_5, .int .i64 a0_6, .slice A0_7 l0_7.length c0_7, .string a0_8, .bool a0_9, .int .i64 a0_10, .int .i64 a0_11] 167 (0, 0)) (zp BK263) hb); replace BK264 := Aside0.mk (blk_below (g := gb264) (o := .cells #[.int .i64 0, .int .i64 0, .slice none 0 0, .string (⟨#[]⟩ : ByteArray), .bool false, .bool false, .int .i64 0, .slice none 0 0, .string (⟨#[]⟩ : ByteArray), .bool false, .int .i64 0, .int .i64 0] 104 (0, 0)) (zp BK264) hb); replace BK265 := Aside0.mk (blk_below (g := gb265) (o := .cells #[.int .i64 a0_0, .int .i64 a0_1, .slice Ao14 t266.length co14, .string a0_3, .bool a0_4, .bool a0_5, .int .i64 a0_6, .slice Ao18 t269.length co18, .string a0_8, .bool a0_9, .int .i64 0, .int .i64 0] 104 (0, 0)) (zp BK265) hb); replace HB := Aside0.mk (below_step (zb HB) hb); (try clear hb); obtain ⟨hcz22_0, hcz22_1, hcz22_2, hcz22_3, hcz22_4, hcz22_5, hcz22_6, hcz22_7, hcz22_8, hcz22_9, hcz22_10, hcz22_11, hfz22_0, hfz22_1, hfz22_2, hfz22_3, hfz22_4, hfz22_5, hfz22_6, hfz22_7, hfz22_8, hfz22_9, hfz22_10, hfz22_11⟩ := c12 BK265; obtain ⟨hcz23_0, hcz23_1, hcz23_2, hcz23_3, hcz23_4, hcz23_5, hcz23_6, hcz23_7, hcz23_8, hcz23_9, hcz23_10, hcz23_11, hfz23_0, hfz23_1, hfz23_2, hfz23_3, hfz23_4, hfz23_5, hfz23_6, hfz23_7, hfz23_8, hfz23_9, hfz23_10, hfz23_11⟩ := c12 BK264))
 refine bodyPost_ret (results_cell_row rfl _ _ gb264 104 #[.int .i64 a0_0, .int .i64 a0_1, .slice Ao14 t266.length co14, .string a0_3, .bool a0_4, .bool a0_5, .int .i64 a0_6, .slice Ao18 t269.length co18, .string a0_8, .bool a0_9, .int .i64 t272, .int .i64 t273] (0, 0) _ rfl (zp BK264) Try.underlying104 rfl (by kernel_rfl)) rfl ?_
 exact ⟨_, _, ze, zq (Kd.R_mono (Kd.R_far (p := ⟨gb264, 11, none⟩) (Kd.R_far (p := ⟨gb264, 10, none⟩) (Kd.R_far (p := ⟨gb264, 9, none⟩) (Kd.R_far (p := ⟨gb264, 8, none⟩) (Kd.R_far (p := ⟨gb264, 7, none⟩) (Kd.R_far (p := ⟨gb264, 6, none⟩) (Kd.R_far (p := ⟨gb264, 5, none⟩) (Kd.R_far (p := ⟨gb264, 4, none⟩) (Kd.R_far (p := ⟨gb264, 3, none⟩) (Kd.R_far (p := ⟨gb264, 2, none⟩) (Kd.R_far (p := ⟨gb264, 1, none⟩) (Kd.R_far (p := ⟨gb264, 0, none⟩) (Kd.R_far (p := ⟨gb265, 11, none⟩) (Kd.R_far (p := ⟨gb265, 10, none⟩) (Kd.R_types (Kd.R_types HO268.out BK265.out (by decide)) BK264.out (by decide)) (fun _ hk => hk.1.2) (.int .i64 t272)) (fun _ hk => hk.1.2) (.int .i64 t273)) (fun _ hk => hk.2) (.int .i64 a0_0)) (fun _ hk => hk.2) (.int .i64 a0_1)) (fun _ hk => hk.2) (.slice Ao14 t266.length co14)) (fun _ hk => hk.2) (.string a0_3)) (fun _ hk => hk.2) (.bool a0_4)) (fun _ hk => hk.2) (.bool a0_5)) (fun _ hk => hk.2) (.int .i64 a0_6)) (fun _ hk => hk.2) (.slice Ao18 t269.length co18)) (fun _ hk => hk.2) (.string a0_8)) (fun _ hk => hk.2) (.bool a0_9)) (fun _ hk => hk.2) (.int .i64 t272)) (fun _ hk => hk.2) (.int .i64 t273)) (fun _ hk => hk.1.1.2)), zq (Kd.R_mono (Kd.R_far (p := ⟨gb264, 11, none⟩) (Kd.R_far (p := ⟨gb264, 10, none⟩) (Kd.R_far (p := ⟨gb264, 9, none⟩) (Kd.R_far (p := ⟨gb264, 8, none⟩) (Kd.R_far (p := ⟨gb264, 7, none⟩) (Kd.R_far (p := ⟨gb264, 6, none⟩) (Kd.R_far (p := ⟨gb264, 5, none⟩) (Kd.R_far (p := ⟨gb264, 4, none⟩) (Kd.R_far (p := ⟨gb264, 3, none⟩) (Kd.R_far (p := ⟨gb264, 2, none⟩) (Kd.R_far (p := ⟨gb264, 1, none⟩) (Kd.R_far (p := ⟨gb264, 0, none⟩) (Kd.R_far (p := ⟨gb265, 11, none⟩) (Kd.R_far (p := ⟨gb265, 10, none⟩) (Kd.R_types (Kd.R_types HO271.out BK265.out (by decide)) BK264.out (by decide)) (fun _ hk => hk.1.2) (.int .i64 t272)) (fun _ hk => hk.1.2) (.int .i64 t273)) (fun _ hk => hk.2) (.int .i64 a0_0)) (fun _ hk => hk.2) (.int .i64 a0_1)) (fun _ hk => hk.2) (.slice Ao14 t266.length co14)) (fun _ hk => hk.2) (.string a0_3)) (fun _ hk => hk.2) (.bool a0_4)) (fun _ hk => hk.2) (.bool a0_5)) (fun _ hk => hk.2) (.int .i64 a0_6)) (fun _ hk => hk.2) (.slice Ao18 t269.length co18)) (fun _ hk => hk.2) (.string a0_8)) (fun _ hk => hk.2) (.bool a0_9)) (fun _ hk => hk.2) (.int .i64 t272)) (fun _ hk => hk.2) (.int .i64 t273)) (fun _ hk => hk.1.1.2)), zb HB⟩

/-! ### laws_toStreamS: function 96 -/
-- thin
def laws_toStreamS.l0 : Nat → List (S167) → List (S104) → Int → Option ((List (S104)))
 | 0, _, _, _ => none
 | k + 1, x0, x3, x4 => if x4 < (x0.length : Int) then (if 0 ≤ x4 then ((laws_toStream.f k ((rd_T167 x0 x4).f0) ((rd_T167 x0 x4).f1) ((rd_T167 x0 x4).f2) ((rd_T167 x0 x4).f3) ((rd_T167 x0 x4).f4) ((rd_T167 x0 x4).f5) ((rd_T167 x0 x4).f6) ((rd_T167 x0 x4).f7) ((rd_T167 x0 x4).f8) ((rd_T167 x0 x4).f9) ((rd_T167 x0 x4).f10.f0) ((rd_T167 x0 x4).f10.f1)).bind fun bt278 => (if x4 < (x3.length : Int) then (laws_toStreamS.l0 k x0 (x3.set (x4 : Int).toNat (⟨bt278.1, bt278.2.1, bt278.2.2.1, bt278.2.2.2.1, bt278.2.2.2.2.1, bt278.2.2.2.2.2.1, bt278.2.2.2.2.2.2.1, bt278.2.2.2.2.2.2.2.1, bt278.2.2.2.2.2.2.2.2.1, bt278.2.2.2.2.2.2.2.2.2.1, (⟨bt278.2.2.2.2.2.2.2.2.2.2.1, bt278.2.2.2.2.2.2.2.2.2.2.2⟩ : S39)⟩ : S104)) (wrap64 (x4 + 1))) else (none))) else (none)) else (some x3)
def laws_toStreamS.f (k : Nat) (l0 : List (S167)) : Option ((List (S104))) := if 0 ≤ (l0.length : Int) then (if ((l0.length : Int) : Int).toNat ≤ 2069668946401 then (laws_toStreamS.l0 k l0 (List.replicate ((l0.length : Int) : Int).toNat z104) 0) else (none)) else (none)
theorem laws_toStreamS.mono_l : ∀ k, (∀ y0 y1 y2, LeO (laws_toStreamS.l0 k y0 y1 y2) (laws_toStreamS.l0 (k + 1) y0 y1 y2))
 | 0 => fun _ _ _ r h => by simp [laws_toStreamS.l0] at h
 | k + 1 => by
  have ih0 := laws_toStreamS.mono_l k
  ·intro y0 y1 y2
   unfold laws_toStreamS.l0
   have m0 := @laws_toStream.mono
   exact zm
theorem laws_toStreamS.mono : ∀ a0 k, LeO (laws_toStreamS.f k a0) (laws_toStreamS.f (k + 1) a0) := by
 intro a0 k
 have ih0 := laws_toStreamS.mono_l k
 unfold laws_toStreamS.f
 have m0 := @laws_toStream.mono
 exact zm
set_option maxHeartbeats 8000000 in
set_option maxRecDepth 100000 in
theorem laws_toStreamS.calls (k : Nat) (A0 : Option Addr) (c0 : Nat) (l0 : List (S167)) (r : List (S104)) (w : World) (hr0 : Kd.C k167 w A0 l0.length l0) (hc0 : l0.length ≤ c0) (h : laws_toStreamS.f k l0 = some r) :
  Calls Try.prog 96 #[.slice A0 l0.length c0] w fun e w' => ∃ v0_ : Value, e = .returned (v0_) ∧ Kd.S k104 104 w' w.heap.size (fun _ => True) v0_ r ∧ Below w.heap.size w w' := by
 have hu167 := Try.underlying167
 have hu104 := Try.underlying104
 have HR0 := Aside0.mk hr0
 have HC0 := Aside0.mk hc0
 clear hr0 hc0
 have HB := Aside0.mk (Below.refl w.heap.size w)
 have H : (if 0 ≤ (l0.length : Int) then (if ((l0.length : Int) : Int).toNat ≤ 2069668946401 then (laws_toStreamS.l0 k l0 (List.replicate ((l0.length : Int) : Int).toNat z104) 0) else (none)) else (none)) = some r := h
 clear h
 replace H := sp H
 rcases H with ⟨c2, H⟩ | ⟨c2, H⟩
 ·skip
  have c2b0 := eq_true c2
  have c2b1 := decide_eq_true c2
  clear c2
  by_cases c3 : ((l0.length : Int) : Int).toNat ≤ 2069668946401
  ·rw [if_pos c3] at H
   have c3b0 := eq_true c3
   have c3b1 := decide_eq_true c3
   clear c3
   obtain ⟨y274, hy274⟩ : ∃ y_ : List (S104), y_ = (List.replicate ((l0.length : Int) : Int).toNat z104) := ⟨_, rfl⟩
   replace H : (laws_toStreamS.l0 k l0 y274 0) = some r := by first | (rw [hy274]; with_reducible exact H) | (have H2_ := (Option.bind_some _ _).symm.trans H; rw [hy274]; with_reducible exact H2_) | (have H2_ := (Option.bind_some _ _).symm.trans H; with_reducible exact H2_) | with_reducible exact H | (rw [hy274]; exact H) | exact H
   have Ny274 := Aside0.mk hy274
   clear hy274
   have H' := Aside0.mk H
   clear H
   go_enter Try.func96, Try.ntmps96
   go_wp2_with (first | ((with_reducible refine gd 7 rfl ?_); refine Kd.S_make k104 _ 104 rfl (N := 7) rfl 37 _ _ rfl (l0.length : Int) rfl rfl Try.underlying37 (.agg #[(.int .i64 0), (.int .i64 0), (.slice none 0 0), (.string ⟨#[]⟩), (.bool false), (.bool false), (.int .i64 0), (.slice none 0 0), (.string ⟨#[]⟩), (.bool false), (.int .i64 0), (.int .i64 0)]) 136 info104 rfl (by decide) (by omega) z104 (ok := fun _ => True) (okp := fun _ => True) (k104_mkM _ _ _ z104 (Kd.R_nil _ _ _ _ _) (Kd.R_nil _ _ _ _ _)) (fun _ hk => hk) trivial (of_decide_eq_true za) (Nat.le_trans (Nat.mul_le_mul_right _ (of_decide_eq_true za : (l0.length : Int).toNat ≤ 2069668946401)) (by omega)) (Below.refl _ _) (Nat.le_refl _) ?_; intro v275 w4 ho5 hb hg_ hnew_; clear hg_ hnew_; (first | rw [← Ny274.out] at ho5 | (simp only [Int.reduceToNat] at ho5; rw [← Ny274.out] at ho5)); have HO276 := Aside0.mk (Kd.S_lower ho5 (below_size (zb HB))); replace HB := Aside0.mk (below_step (zb HB) hb); clear hb ho5))
   go_loopg [4] k (fun kq v4 w' => ∃ (x3_1 : List (S104)) (x4_1 : Int), v4 = .int .i64 x4_1 ∧ Aside0 (laws_toStreamS.l0 kq l0 x3_1 x4_1 = some r) ∧ Aside0 (kq ≤ k) ∧ Aside0 (Kd.S k104 104 w' w.heap.size (fun _ => True) v275 x3_1) ∧ Aside0 (Below w.heap.size w w'))
   case atStart => exact ⟨(y274), (0), zs, H', ⟨Nat.le_refl _⟩, ⟨by (with_reducible repeat (first | apply Kd.S_alloc | apply Kd.S_drewN | apply Kd.S_drew)); exact HO276.out⟩, ⟨zb HB⟩⟩
   case round =>
    clear H'
    try clear c2
    try clear c2b0
    try clear c2b1
    try clear p2
    try clear c3
    try clear c3b0
    try clear c3b1
    obtain ⟨x3_1, x4_1, rfl, HA, HK1, HO_3, HB⟩ := hrel
    cases gk with
    | zero => exact absurd HA.out (by simp [laws_toStreamS.l0])
    | succ k1 =>
     have H := HA.out
     clear HA
     simp only [laws_toStreamS.l0] at H
     by_cases c6 : x4_1 < (l0.length : Int)
     ·rw [if_pos c6] at H
      have c6b0 := decide_eq_true c6
      clear c6
      by_cases c7 : 0 ≤ x4_1
      ·rw [if_pos c7] at H
       have c7b0 := decide_eq_true c7
       clear c7
       obtain ⟨⟨t278, t279, t280, t283, t284, t285, t286, t287, t290, t291, t292, t293⟩, A8, H⟩ := ob H
       (try dsimp only at H)
       by_cases c9 : x4_1 < (x3_1.length : Int)
       ·rw [if_pos c9] at H
        have c9b0 := decide_eq_true c9
        clear c9
        obtain ⟨y294, hy294⟩ : ∃ y_ : List (S104), y_ = (x3_1.set (x4_1 : Int).toNat (⟨t278, t279, t280, t283, t284, t285, t286, t287, t290, t291, (⟨t292, t293⟩ : S39)⟩ : S104)) := ⟨_, rfl⟩
        replace H : (laws_toStreamS.l0 k1 l0 y294 (wrap64 (x4_1 + 1))) = some r := by first | (rw [hy294]; with_reducible exact H) | (have H2_ := (Option.bind_some _ _).symm.trans H; rw [hy294]; with_reducible exact H2_) | (have H2_ := (Option.bind_some _ _).symm.trans H; with_reducible exact H2_) | with_reducible exact H | (rw [hy294]; exact H) | exact H
        have Ny294 := Aside0.mk hy294
        clear hy294
        have H' := Aside0.mk H
        clear H
        have p277 : 0 ≤ (x4_1 : Int) := of_decide_eq_true za
        have q277 : x4_1 < (l0.length : Int) := of_decide_eq_true za
        obtain ⟨ad277, A277_2, c277_2, A277_7, c277_7, e277, hx277_0, hx277_1, hx277_2, hx277_3, hx277_4, hx277_5, hx277_6, hx277_7, hx277_8, hx277_9, hx277_10, hx277_11, hl277_2, hi277_2, hl277_7, hi277_7⟩ := at_T167 HR0.out x4_1 p277 q277
        cases e277
        replace hx277_0 := cb0 hx277_0 HB
        replace hx277_1 := cb0 hx277_1 HB
        replace hx277_2 := cb0 hx277_2 HB
        replace hx277_3 := cb0 hx277_3 HB
        replace hx277_4 := cb0 hx277_4 HB
        replace hx277_5 := cb0 hx277_5 HB
        replace hx277_6 := cb0 hx277_6 HB
        replace hx277_7 := cb0 hx277_7 HB
        replace hx277_8 := cb0 hx277_8 HB
        replace hx277_9 := cb0 hx277_9 HB
        replace hx277_10 := cb0 hx277_10 HB
        replace hx277_11 := cb0 hx277_11 HB
        have HR277_2 := Aside0.mk hi277_2
        have HC277_2 := Aside0.mk hl277_2
        clear hi277_2 hl277_2
        have HR277_7 := Aside0.mk hi277_7
        have HC277_7 := Aside0.mk hl277_7
        clear hi277_7 hl277_7
        replace p277 := eq_true p277
        replace q277 := eq_true q277
        go_wp2_with (first | ((with_reducible refine gq 135 rfl ?_); refine gl (some 20) Try.func135 #[.agg #[.int .i64 ((rd_T167 l0 x4_1).f0), .int .i64 ((rd_T167 l0 x4_1).f1), .slice A277_2 ((rd_T167 l0 x4_1).f2).length c277_2, .string ((rd_T167 l0 x4_1).f3), .bool ((rd_T167 l0 x4_1).f4), .bool ((rd_T167 l0 x4_1).f5), .int .i64 ((rd_T167 l0 x4_1).f6), .slice A277_7 ((rd_T167 l0 x4_1).f7).length c277_7, .string ((rd_T167 l0 x4_1).f8), .bool ((rd_T167 l0 x4_1).f9), .int .i64 ((rd_T167 l0 x4_1).f10.f0), .int .i64 ((rd_T167 l0 x4_1).f10.f1)]] ?_; (with_reducible refine (laws_toStream.calls k1 ((rd_T167 l0 x4_1).f0) ((rd_T167 l0 x4_1).f1) _ _ ((rd_T167 l0 x4_1).f2) ((rd_T167 l0 x4_1).f3) ((rd_T167 l0 x4_1).f4) ((rd_T167 l0 x4_1).f5) ((rd_T167 l0 x4_1).f6) _ _ ((rd_T167 l0 x4_1).f7) ((rd_T167 l0 x4_1).f8) ((rd_T167 l0 x4_1).f9) ((rd_T167 l0 x4_1).f10.f0) ((rd_T167 l0 x4_1).f10.f1) t278 t279 t280 t283 t284 t285 t286 t287 t290 t291 t292 t293 _ ?side1 ?side2 ?side3 ?side4 A8.out).mono ?_); (case side1 => exact zc (Kd.C_below HR277_2.out HB.out)); (case side2 => exact HC277_2.out); (case side3 => exact zc (Kd.C_below HR277_7.out HB.out)); (case side4 => exact HC277_7.out); rintro e w11 ⟨v281, v288, rfl, ho0, ho1, hb⟩; refine ⟨_, rfl, ?_⟩; have hs281 := rs ho0; have hs288 := rs ho1; replace HO_3 := Aside0.mk (Kd.S_mono (Kd.S_told (Kd.S_told (Kd.S_old (by (with_reducible repeat (first | apply Kd.S_alloc | apply Kd.S_drewN | apply Kd.S_drew)); exact HO_3.out) hb) (Kd.R_base ho0)) (Kd.R_base ho1)) (fun _ h_ => h_.1)); have HO282 := Aside0.mk (Kd.R_lower ho0 (below_size (zb HB))); have HO289 := Aside0.mk (Kd.R_lower ho1 (below_size (zb HB))); replace HB := Aside0.mk (below_step (zb HB) hb); (try clear hb); (try clear ho0); (try clear ho1); have p10 : 0 ≤ (x4_1 : Int) := of_decide_eq_true za; have q10 : (x4_1 : Int) < ((x3_1.length : Int) : Int) := of_decide_eq_true za; obtain ⟨go10, co10, eo10, gb10, gl10, cl10, HG10⟩ := Kd.S_form HO_3.out (by omega); (first | cases eo10 | (injection eo10 with ea_ en_ ec_; (first | subst ea_ | (injection ea_ with ea_; subst ea_)); subst ec_; clear en_)); have GB10 := Aside0.mk gb10; have GG10 := Aside0.mk HG10; clear gb10 gl10 HG10; obtain ⟨_, ce10, hcl10, hM10, hcc10, hfr10, _, _⟩ := Kd.S_elem HO_3.out z104 (x4_1 : Int) p10 q10; obtain ⟨ve10_2, ve10_7, rfl, ge10_2, ge10_7⟩ := k104_openM hM10; have hx10_0 : w11.cell? ⟨go10, (x4_1 : Int).toNat * 12, none⟩ = some (.int .i64 ((rd_T104 x3_1 x4_1).f0)) := hcc10 0 _ rfl; have hx10_1 : w11.cell? ⟨go10, (x4_1 : Int).toNat * 12 + 1, none⟩ = some (.int .i64 ((rd_T104 x3_1 x4_1).f1)) := hcc10 1 _ rfl; have hx10_2 : w11.cell? ⟨go10, (x4_1 : Int).toNat * 12 + 2, none⟩ = some (ve10_2) := hcc10 2 _ rfl; have hx10_3 : w11.cell? ⟨go10, (x4_1 : Int).toNat * 12 + 3, none⟩ = some (.string ((rd_T104 x3_1 x4_1).f3)) := hcc10 3 _ rfl; have hx10_4 : w11.cell? ⟨go10, (x4_1 : Int).toNat * 12 + 4, none⟩ = some (.bool ((rd_T104 x3_1 x4_1).f4)) := hcc10 4 _ rfl; have hx10_5 : w11.cell? ⟨go10, (x4_1 : Int).toNat * 12 + 5, none⟩ = some (.bool ((rd_T104 x3_1 x4_1).f5)) := hcc10 5 _ rfl; have hx10_6 : w11.cell? ⟨go10, (x4_1 : Int).toNat * 12 + 6, none⟩ = some (.int .i64 ((rd_T104 x3_1 x4_1).f6)) := hcc10 6 _ rfl; have hx10_7 : w11.cell? ⟨go10, (x4_1 : Int).toNat * 12 + 7, none⟩ = some (ve10_7) := hcc10 7 _ rfl; have hx10_8 : w11.cell? ⟨go10, (x4_1 : Int).toNat * 12 + 8, none⟩ = some (.string ((rd_T104 x3_1 x4_1).f8)) := hcc10 8 _ rfl; have hx10_9 : w11.cell? ⟨go10, (x4_1 : Int).toNat * 12 + 9, none⟩ = some (.bool ((rd_T104 x3_1 x4_1).f9)) := hcc10 9 _ rfl; have hx10_10 : w11.cell? ⟨go10, (x4_1 : Int).toNat * 12 + 10, none⟩ = some (.int .i64 ((rd_T104 x3_1 x4_1).f10.f0)) := hcc10 10 _ rfl; have hx10_11 : w11.cell? ⟨go10, (x4_1 : Int).toNat * 12 + 11, none⟩ = some (.int .i64 ((rd_T104 x3_1 x4_1).f10.f1)) := hcc10 11 _ rfl; have hf10_0 : w11.frozen? ⟨go10, (x4_1 : Int).toNat * 12, none⟩ = false := hfr10 0; have hf10_1 : w11.frozen? ⟨go10, (x4_1 : Int).toNat * 12 + 1, none⟩ = false := hfr10 1; have hf10_2 : w11.frozen? ⟨go10, (x4_1 : Int).toNat * 12 + 2, none⟩ = false := hfr10 2; have hf10_3 : w11.frozen? ⟨go10, (x4_1 : Int).toNat * 12 + 3, none⟩ = false := hfr10 3; have hf10_4 : w11.frozen? ⟨go10, (x4_1 : Int).toNat * 12 + 4, none⟩ = false := hfr10 4; have hf10_5 : w11.frozen? ⟨go10, (x4_1 : Int).toNat * 12 + 5, none⟩ = false := hfr10 5; have hf10_6 : w11.frozen? ⟨go10, (x4_1 : Int).toNat * 12 + 6, none⟩ = false := hfr10 6; have hf10_7 : w11.frozen? ⟨go10, (x4_1 : Int).toNat * 12 + 7, none⟩ = false := hfr10 7; have hf10_8 : w11.frozen? ⟨go10, (x4_1 : Int).toNat * 12 + 8, none⟩ = false := hfr10 8; have hf10_9 : w11.frozen? ⟨go10, (x4_1 : Int).toNat * 12 + 9, none⟩ = false := hfr10 9; have hf10_10 : w11.frozen? ⟨go10, (x4_1 : Int).toNat * 12 + 10, none⟩ = false := hfr10 10; have hf10_11 : w11.frozen? ⟨go10, (x4_1 : Int).toNat * 12 + 11, none⟩ = false := hfr10 11; clear hcl10 hcc10 hfr10 hM10; replace p10 := eq_true p10; replace q10 := eq_true q10; have n_ := Aside0.mk (Kd.S_mono (ok' := (fun k_ => some k_ ≠ (v281 : Value).ownBlock ∧ some k_ ≠ (v288 : Value).ownBlock)) HO_3.out (fun k_ hk => ⟨hk.1.2, hk.2⟩)); clear HO_3; have HO_3 := n_; clear n_; have HX12 := Aside0.mk (show Kd.S k104 104 w11 w.heap.size (fun k_ => ((fun _ => True)) k_ ∧ ¬ ((fun k_ => some k_ = (v281 : Value).ownBlock ∨ some k_ = (v288 : Value).ownBlock)) k_) (.slice (some ⟨go10, 0, none⟩) x3_1.length co10) x3_1 from (by (with_reducible repeat (first | apply Kd.S_alloc | apply Kd.S_drewN | apply Kd.S_drew)); exact Kd.S_mono HO_3.out (fun k_ hk => ⟨trivial, fun e_ => e_.elim (fun h_ => hk.1 h_) (fun h_ => hk.2 h_)⟩))); obtain ⟨oki12, ce12, hcl12, hM12, hcc12, hfr12, hoki12, hH12⟩ := Kd.S_elem HX12.out z104 (x4_1 : Int) (of_decide_eq_true za) (by have h_ : (x4_1 : Int) < ((x3_1.length : Int) : Int) := of_decide_eq_true za; first | exact h_ | (have e_ := (Kd.S_reads' HO_3.out).1; omega) | simpa using h_); obtain ⟨ve12_2, ve12_7, rfl, ge12_2, ge12_7⟩ := k104_openM hM12; have HP12 := Kd.S_seg hH12 (of_decide_eq_true za) (by have h_ : (x4_1 : Int) < ((x3_1.length : Int) : Int) := of_decide_eq_true za; first | exact h_ | (have e_ := (Kd.S_reads' HO_3.out).1; omega) | simpa using h_) (seg := [.int .i64 t278, .int .i64 t279, v281, .string t283, .bool t284, .bool t285, .int .i64 t286, v288, .string t290, .bool t291, .int .i64 t292, .int .i64 t293]) (j := 0) (show 12 ≤ 12 from by decide) (x' := (⟨t278, t279, t280, t283, t284, t285, t286, t287, t290, t291, (⟨t292, t293⟩ : S39)⟩ : S104)) (k104_mkM _ _ _ (⟨t278, t279, t280, t283, t284, t285, t286, t287, t290, t291, (⟨t292, t293⟩ : S39)⟩ : S104) (Kd.R_mono (Kd.R_tight rfl (Kd.R_mono (ok' := fun k_ => ((fun _ => True)) k_ ∧ k_ ≠ go10) (Kd.R_apart' (HO282.out) (Kd.S_typed HO_3.out) (by decide)) (fun k_ hk => ⟨trivial, fun e_ => (hk.2) (by rw [e_]; rfl)⟩))) (fun _ h_ => Or.inr (Or.inl h_))) (Kd.R_mono (Kd.R_tight rfl (Kd.R_mono (ok' := fun k_ => ((fun _ => True)) k_ ∧ k_ ≠ go10) (Kd.R_apart' (HO289.out) (Kd.S_typed HO_3.out) (by decide)) (fun k_ hk => ⟨trivial, fun e_ => (hk.2) (by rw [e_]; rfl)⟩))) (fun _ h_ => Or.inr (Or.inr (h_))))) (fun _ hk => hk) (fun k_ hk_ => hk_.elim (fun h_ => ((Kd.R_mono (ok' := fun k_ => ((fun _ => True)) k_ ∧ k_ ≠ go10) (Kd.R_apart' (HO282.out) (Kd.S_typed HO_3.out) (by decide)) (fun k_ hk => ⟨trivial, fun e_ => (hk.2) (by rw [e_]; rfl)⟩))).1 k_ h_.symm) (fun h_ => ((Kd.R_mono (ok' := fun k_ => ((fun _ => True)) k_ ∧ k_ ≠ go10) (Kd.R_apart' (HO289.out) (Kd.S_typed HO_3.out) (by decide)) (fun k_ hk => ⟨trivial, fun e_ => (hk.2) (by rw [e_]; rfl)⟩))).1 k_ h_.symm)); have hx12_0 := hcc12 0 _ rfl; (try simp only [show (k104).sz = 12 from rfl, Nat.mul_one, Nat.add_zero] at hx12_0); have hf12_0 := hfr12 0; (try simp only [show (k104).sz = 12 from rfl, Nat.mul_one, Nat.add_zero] at hf12_0); have hx12_1 := hcc12 1 _ rfl; (try simp only [show (k104).sz = 12 from rfl, Nat.mul_one, Nat.add_zero] at hx12_1); have hf12_1 := hfr12 1; (try simp only [show (k104).sz = 12 from rfl, Nat.mul_one, Nat.add_zero] at hf12_1); have hx12_2 := hcc12 2 _ rfl; (try simp only [show (k104).sz = 12 from rfl, Nat.mul_one, Nat.add_zero] at hx12_2); have hf12_2 := hfr12 2; (try simp only [show (k104).sz = 12 from rfl, Nat.mul_one, Nat.add_zero] at hf12_2); have hx12_3 := hcc12 3 _ rfl; (try simp only [show (k104).sz = 12 from rfl, Nat.mul_one, Nat.add_zero] at hx12_3); have hf12_3 := hfr12 3; (try simp only [show (k104).sz = 12 from rfl, Nat.mul_one, Nat.add_zero] at hf12_3); have hx12_4 := hcc12 4 _ rfl; (try simp only [show (k104).sz = 12 from rfl, Nat.mul_one, Nat.add_zero] at hx12_4); have hf12_4 := hfr12 4; (try simp only [show (k104).sz = 12 from rfl, Nat.mul_one, Nat.add_zero] at hf12_4); have hx12_5 := hcc12 5 _ rfl; (try simp only [show (k104).sz = 12 from rfl, Nat.mul_one, Nat.add_zero] at hx12_5); have hf12_5 := hfr12 5; (try simp only [show (k104).sz = 12 from rfl, Nat.mul_one, Nat.add_zero] at hf12_5); have hx12_6 := hcc12 6 _ rfl; (try simp only [show (k104).sz = 12 from rfl, Nat.mul_one, Nat.add_zero] at hx12_6); have hf12_6 := hfr12 6; (try simp only [show (k104).sz = 12 from rfl, Nat.mul_one, Nat.add_zero] at hf12_6); have hx12_7 := hcc12 7 _ rfl; (try simp only [show (k104).sz = 12 from rfl, Nat.mul_one, Nat.add_zero] at hx12_7); have hf12_7 := hfr12 7; (try simp only [show (k104).sz = 12 from rfl, Nat.mul_one, Nat.add_zero] at hf12_7); have hx12_8 := hcc12 8 _ rfl; (try simp only [show (k104).sz = 12 from rfl, Nat.mul_one, Nat.add_zero] at hx12_8); have hf12_8 := hfr12 8; (try simp only [show (k104).sz = 12 from rfl, Nat.mul_one, Nat.add_zero] at hf12_8); have hx12_9 := hcc12 9 _ rfl; (try simp only [show (k104).sz = 12 from rfl, Nat.mul_one, Nat.add_zero] at hx12_9); have hf12_9 := hfr12 9; (try simp only [show (k104).sz = 12 from rfl, Nat.mul_one, Nat.add_zero] at hf12_9); have hx12_10 := hcc12 10 _ rfl; (try simp only [show (k104).sz = 12 from rfl, Nat.mul_one, Nat.add_zero] at hx12_10); have hf12_10 := hfr12 10; (try simp only [show (k104).sz = 12 from rfl, Nat.mul_one, Nat.add_zero] at hf12_10); have hx12_11 := hcc12 11 _ rfl; (try simp only [show (k104).sz = 12 from rfl, Nat.mul_one, Nat.add_zero] at hx12_11); have hf12_11 := hfr12 11; (try simp only [show (k104).sz = 12 from rfl, Nat.mul_one, Nat.add_zero] at hf12_11); clear hcl12 hcc12 hfr12 hM12 hoki12 hH12) | ((with_reducible refine gate_store (t := 104) (p := 21) rfl ?_); refine store_event (t := 104) (p := 21) (v := ?vo_w13) (w1 := ((((((((((((w11.setCell ⟨go10, (x4_1 : Int).toNat * 12, none⟩ (.int .i64 t278)).setCell ⟨go10, (x4_1 : Int).toNat * 12 + 1, none⟩ (.int .i64 t279)).setCell ⟨go10, (x4_1 : Int).toNat * 12 + 2, none⟩ (v281)).setCell ⟨go10, (x4_1 : Int).toNat * 12 + 3, none⟩ (.string t283)).setCell ⟨go10, (x4_1 : Int).toNat * 12 + 4, none⟩ (.bool t284)).setCell ⟨go10, (x4_1 : Int).toNat * 12 + 5, none⟩ (.bool t285)).setCell ⟨go10, (x4_1 : Int).toNat * 12 + 6, none⟩ (.int .i64 t286)).setCell ⟨go10, (x4_1 : Int).toNat * 12 + 7, none⟩ (v288)).setCell ⟨go10, (x4_1 : Int).toNat * 12 + 8, none⟩ (.string t290)).setCell ⟨go10, (x4_1 : Int).toNat * 12 + 9, none⟩ (.bool t291)).setCell ⟨go10, (x4_1 : Int).toNat * 12 + 10, none⟩ (.int .i64 t292)).setCell ⟨go10, (x4_1 : Int).toNat * 12 + 11, none⟩ (.int .i64 t293))) ?hg ?ho ?hn ?hr ?_; (case ho => rfl); (case hg => rfl); (case hn => rfl); (case hr => first | (go_simp; done) | (go_simp; rfl)); intro w13 hw; have hg : w11.grownBy w13 (some go10) := (by rw [hw]; exact HP12.2); have hp_ : Kd.S k104 104 w13 w.heap.size (fun _ => True) (.slice (some ⟨go10, 0, none⟩) x3_1.length co10) y294 := (by rw [hw, Ny294.out]; exact HP12.1); clear HP12; replace HO_3 := Aside0.mk (hp_); replace HB := Aside0.mk ((by rw [hw]; exact below_set (below_set (below_set (below_set (below_set (below_set (below_set (below_set (below_set (below_set (below_set (below_set (HB.out) GB10.out) GB10.out) GB10.out) GB10.out) GB10.out) GB10.out) GB10.out) GB10.out) GB10.out) GB10.out) GB10.out) GB10.out : Below w.heap.size w w13)); clear HO282; clear HO289; clear hg hw hp_))
        go_roundg k1
        case measure => have := HK1.out; omega
        case rel => exact ⟨(y294), (wrap64 (x4_1 + 1)), zs, H', ⟨by have := HK1.out; omega⟩, ⟨by (with_reducible repeat (first | apply Kd.S_alloc | apply Kd.S_drewN | apply Kd.S_drew)); exact HO_3.out⟩, ⟨zb HB⟩⟩
       ·rw [if_neg c9] at H
        exact absurd H (by simp)
      ·rw [if_neg c7] at H
       exact absurd H (by simp)
     ·rw [if_neg c6] at H
      have c6b0 := decide_eq_false c6
      clear c6
      obtain rfl := Option.some.inj H
      go_wp2
      go_ret
      exact ⟨_, ze, by (with_reducible repeat (first | apply Kd.S_alloc | apply Kd.S_drewN | apply Kd.S_drew)); exact HO_3.out, zb HB⟩
  ·rw [if_neg c3] at H
   exact absurd H (by simp)
 ·skip
  exact absurd H (by simp)

/-! ### laws_toFrame: function 136 -/
-- thin
def laws_toFrame.f (a0_0 : Int) (a0_1 : Bool) (a0_2 : Int) (a0_3 : ByteArray) : Option (Int × Bool × Int × ByteArray) := some (a0_0, a0_1, a0_2, a0_3)
set_option maxHeartbeats 8000000 in
set_option maxRecDepth 100000 in
theorem laws_toFrame.calls (a0_0 : Int) (a0_1 : Bool) (a0_2 : Int) (a0_3 : ByteArray) (r1 : Int) (r2 : Bool) (r3 : Int) (r4 : ByteArray) (w : World) (h : laws_toFrame.f a0_0 a0_1 a0_2 a0_3 = some (r1, r2, r3, r4)) :
  Calls Try.prog 136 #[.agg #[.int .i64 a0_0, .bool a0_1, .int .i64 a0_2, .string a0_3]] w fun e w' => e = .returned (.agg #[.int .i64 r1, .bool r2, .int .i64 r3, .string r4]) ∧ Below w.heap.size w w' := by
 have hu169 := Try.underlying169
 have hu110 := Try.underlying110
 have HB := Aside0.mk (Below.refl w.heap.size w)
 have H : (some (a0_0, a0_1, a0_2, a0_3)) = some (r1, r2, r3, r4) := h
 clear h
 simp only [Option.some.injEq, Prod.mk.injEq] at H
 obtain ⟨rfl, rfl, rfl, rfl⟩ := H
 go_enter Try.func136, Try.ntmps136
 go_wp2_with (first | ((with_reducible refine gd 1 rfl ?_); refine bx (N := 1) (cs := #[.int .i64 a0_0, .bool a0_1, .int .i64 a0_2, .string a0_3]) (t := 169) ?_; intro gb295 hg w2 hbox hb; have BK295 := Aside0.mk (hbox); have GW295 := gw HB hg; have GE295 := GW295; replace HB := Aside0.mk (below_step (zb HB) hb); clear hb hbox hg) | ((with_reducible refine gd 2 rfl ?_); refine bx (N := 2) (cs := #[.int .i64 0, .bool false, .int .i64 0, .string (⟨#[]⟩ : ByteArray)]) (t := 110) ?_; intro gb296 hg w3 hbox hb; have BK296 := Aside0.mk (hbox); have GW296 := gw HB hg; have GE296 := GW296; replace HB := Aside0.mk (below_step (zb HB) hb); obtain ⟨NB295_296, NB296_295⟩ := nb BK295 hg; replace BK295 := kb BK295 hb; clear hb hbox hg) | ((with_reducible refine gd 3 rfl ?_); refine bx (N := 3) (cs := #[.int .i64 0, .bool false, .int .i64 0, .string (⟨#[]⟩ : ByteArray)]) (t := 110) ?_; intro gb297 hg w4 hbox hb; have BK297 := Aside0.mk (hbox); have GW297 := gw HB hg; have GE297 := GW297; replace HB := Aside0.mk (below_step (zb HB) hb); obtain ⟨NB295_297, NB297_295⟩ := nb BK295 hg; replace BK295 := kb BK295 hb; obtain ⟨NB296_297, NB297_296⟩ := nb BK296 hg; replace BK296 := kb BK296 hb; clear hb hbox hg; have hnb5 := NB295_296.out; have hnc5 := NB296_295.out; have hnb6 := NB295_297.out; have hnc6 := NB297_295.out; obtain ⟨hcz7_0, hcz7_1, hcz7_2, hcz7_3, hfz7_0, hfz7_1, hfz7_2, hfz7_3⟩ := c4 BK295; have hnb8 := NB297_296.out; have hnc8 := NB296_297.out; obtain ⟨hcz9_0, hcz9_1, hcz9_2, hcz9_3, hfz9_0, hfz9_1, hfz9_2, hfz9_3⟩ := c4 BK297; obtain ⟨hcz10_0, hcz10_1, hcz10_2, hcz10_3, hfz10_0, hfz10_1, hfz10_2, hfz10_3⟩ := c4 BK296))
 refine bodyPost_ret (results_cell_row rfl _ _ gb296 110 #[.int .i64 a0_0, .bool a0_1, .int .i64 a0_2, .string a0_3] (0, 0) _ rfl (zp BK296) Try.underlying110 rfl (by kernel_rfl)) rfl ?_
 exact ⟨ze, zb HB⟩

/-! ### laws_toFrameS: function 98 -/
-- thin
def laws_toFrameS.l0 : Nat → List (S169) → List (S110) → Int → Option ((List (S110)))
 | 0, _, _, _ => none
 | k + 1, x0, x3, x4 => if x4 < (x0.length : Int) then (if 0 ≤ x4 then ((laws_toFrame.f ((rd_T169 x0 x4).f0) ((rd_T169 x0 x4).f1) ((rd_T169 x0 x4).f2) ((rd_T169 x0 x4).f3)).bind fun bt302 => (if x4 < (x3.length : Int) then (laws_toFrameS.l0 k x0 (x3.set (x4 : Int).toNat (⟨bt302.1, bt302.2.1, bt302.2.2.1, bt302.2.2.2⟩ : S110)) (wrap64 (x4 + 1))) else (none))) else (none)) else (some x3)
def laws_toFrameS.f (k : Nat) (l0 : List (S169)) : Option ((List (S110))) := if 0 ≤ (l0.length : Int) then (if ((l0.length : Int) : Int).toNat ≤ 7036874417766 then (laws_toFrameS.l0 k l0 (List.replicate ((l0.length : Int) : Int).toNat z110) 0) else (none)) else (none)
theorem laws_toFrameS.mono_l : ∀ k, (∀ y0 y1 y2, LeO (laws_toFrameS.l0 k y0 y1 y2) (laws_toFrameS.l0 (k + 1) y0 y1 y2))
 | 0 => fun _ _ _ r h => by simp [laws_toFrameS.l0] at h
 | k + 1 => by
  have ih0 := laws_toFrameS.mono_l k
  ·intro y0 y1 y2
   unfold laws_toFrameS.l0
   exact zm
theorem laws_toFrameS.mono : ∀ a0 k, LeO (laws_toFrameS.f k a0) (laws_toFrameS.f (k + 1) a0) := by
 intro a0 k
 have ih0 := laws_toFrameS.mono_l k
 unfold laws_toFrameS.f
 exact zm
set_option maxHeartbeats 8000000 in
set_option maxRecDepth 100000 in
theorem laws_toFrameS.calls (k : Nat) (A0 : Option Addr) (c0 : Nat) (l0 : List (S169)) (r : List (S110)) (w : World) (hr0 : Kd.C k169 w A0 l0.length l0) (hc0 : l0.length ≤ c0) (h : laws_toFrameS.f k l0 = some r) :
  Calls Try.prog 98 #[.slice A0 l0.length c0] w fun e w' => ∃ v0_ : Value, e = .returned (v0_) ∧ Kd.R k110 110 w' w.heap.size (fun _ => True) v0_ r ∧ Below w.heap.size w w' := by
 have hu169 := Try.underlying169
 have hu110 := Try.underlying110
 have HR0 := Aside0.mk hr0
 have HC0 := Aside0.mk hc0
 clear hr0 hc0
 have HB := Aside0.mk (Below.refl w.heap.size w)
 have H : (if 0 ≤ (l0.length : Int) then (if ((l0.length : Int) : Int).toNat ≤ 7036874417766 then (laws_toFrameS.l0 k l0 (List.replicate ((l0.length : Int) : Int).toNat z110) 0) else (none)) else (none)) = some r := h
 clear h
 replace H := sp H
 rcases H with ⟨c2, H⟩ | ⟨c2, H⟩
 ·skip
  have c2b0 := eq_true c2
  have c2b1 := decide_eq_true c2
  clear c2
  by_cases c3 : ((l0.length : Int) : Int).toNat ≤ 7036874417766
  ·rw [if_pos c3] at H
   have c3b0 := eq_true c3
   have c3b1 := decide_eq_true c3
   clear c3
   obtain ⟨y298, hy298⟩ : ∃ y_ : List (S110), y_ = (List.replicate ((l0.length : Int) : Int).toNat z110) := ⟨_, rfl⟩
   replace H : (laws_toFrameS.l0 k l0 y298 0) = some r := by first | (rw [hy298]; with_reducible exact H) | (have H2_ := (Option.bind_some _ _).symm.trans H; rw [hy298]; with_reducible exact H2_) | (have H2_ := (Option.bind_some _ _).symm.trans H; with_reducible exact H2_) | with_reducible exact H | (rw [hy298]; exact H) | exact H
   have Ny298 := Aside0.mk hy298
   clear hy298
   have H' := Aside0.mk H
   clear H
   go_enter Try.func98, Try.ntmps98
   go_wp2_with (first | ((with_reducible refine gd 7 rfl ?_); refine Kd.R_make k110 _ 110 rfl (N := 7) rfl 40 _ _ rfl (l0.length : Int) rfl rfl Try.underlying40 (.agg #[(.int .i64 0), (.bool false), (.int .i64 0), (.string ⟨#[]⟩)]) 40 info110 rfl (by decide) (by omega) z110 (ok := fun _ => True) (okp := fun _ => True) (k110_mkM _ _ _ z110 ) (fun _ hk => hk) trivial (of_decide_eq_true za) (Nat.le_trans (Nat.mul_le_mul_right _ (of_decide_eq_true za : (l0.length : Int).toNat ≤ 7036874417766)) (by omega)) (Below.refl _ _) (Nat.le_refl _) ?_; intro v299 w4 ho5 hb hg_ hnew_; clear hg_ hnew_; (first | rw [← Ny298.out] at ho5 | (simp only [Int.reduceToNat] at ho5; rw [← Ny298.out] at ho5)); have HO300 := Aside0.mk (Kd.R_lower ho5 (below_size (zb HB))); replace HB := Aside0.mk (below_step (zb HB) hb); clear hb ho5))
   go_loopg [4] k (fun kq v4 w' => ∃ (x3_1 : List (S110)) (x4_1 : Int), v4 = .int .i64 x4_1 ∧ Aside0 (laws_toFrameS.l0 kq l0 x3_1 x4_1 = some r) ∧ Aside0 (kq ≤ k) ∧ Aside0 (Kd.R k110 110 w' w.heap.size (fun _ => True) v299 x3_1) ∧ Aside0 (Below w.heap.size w w'))
   case atStart => exact ⟨(y298), (0), zs, H', ⟨Nat.le_refl _⟩, ⟨by exact zr HO300⟩, ⟨zb HB⟩⟩
   case round =>
    clear H'
    try clear c2
    try clear c2b0
    try clear c2b1
    try clear p2
    try clear c3
    try clear c3b0
    try clear c3b1
    obtain ⟨x3_1, x4_1, rfl, HA, HK1, HO_3, HB⟩ := hrel
    cases gk with
    | zero => exact absurd HA.out (by simp [laws_toFrameS.l0])
    | succ k1 =>
     have H := HA.out
     clear HA
     simp only [laws_toFrameS.l0] at H
     by_cases c6 : x4_1 < (l0.length : Int)
     ·rw [if_pos c6] at H
      have c6b0 := decide_eq_true c6
      clear c6
      by_cases c7 : 0 ≤ x4_1
      ·rw [if_pos c7] at H
       have c7b0 := decide_eq_true c7
       clear c7
       obtain ⟨⟨t302, t303, t304, t305⟩, A8, H⟩ := ob H
       (try dsimp only at H)
       by_cases c9 : x4_1 < (x3_1.length : Int)
       ·rw [if_pos c9] at H
        have c9b0 := decide_eq_true c9
        clear c9
        obtain ⟨y306, hy306⟩ : ∃ y_ : List (S110), y_ = (x3_1.set (x4_1 : Int).toNat (⟨t302, t303, t304, t305⟩ : S110)) := ⟨_, rfl⟩
        replace H : (laws_toFrameS.l0 k1 l0 y306 (wrap64 (x4_1 + 1))) = some r := by first | (rw [hy306]; with_reducible exact H) | (have H2_ := (Option.bind_some _ _).symm.trans H; rw [hy306]; with_reducible exact H2_) | (have H2_ := (Option.bind_some _ _).symm.trans H; with_reducible exact H2_) | with_reducible exact H | (rw [hy306]; exact H) | exact H
        have Ny306 := Aside0.mk hy306
        clear hy306
        have H' := Aside0.mk H
        clear H
        have p301 : 0 ≤ (x4_1 : Int) := of_decide_eq_true za
        have q301 : x4_1 < (l0.length : Int) := of_decide_eq_true za
        obtain ⟨ad301, e301, hx301_0, hx301_1, hx301_2, hx301_3⟩ := at_T169 HR0.out x4_1 p301 q301
        cases e301
        replace hx301_0 := cb0 hx301_0 HB
        replace hx301_1 := cb0 hx301_1 HB
        replace hx301_2 := cb0 hx301_2 HB
        replace hx301_3 := cb0 hx301_3 HB
        replace p301 := eq_true p301
        replace q301 := eq_true q301
        go_wp2_with (first | ((with_reducible refine gq 136 rfl ?_); refine gl (some 20) Try.func136 #[.agg #[.int .i64 ((rd_T169 l0 x4_1).f0), .bool ((rd_T169 l0 x4_1).f1), .int .i64 ((rd_T169 l0 x4_1).f2), .string ((rd_T169 l0 x4_1).f3)]] ?_; (with_reducible refine (laws_toFrame.calls ((rd_T169 l0 x4_1).f0) ((rd_T169 l0 x4_1).f1) ((rd_T169 l0 x4_1).f2) ((rd_T169 l0 x4_1).f3) t302 t303 t304 t305 _ A8.out).mono ?_); rintro e w11 ⟨rfl, hb⟩; refine ⟨_, rfl, ?_⟩; replace HO_3 := Aside0.mk (Kd.R_below (zr HO_3) hb); replace HB := Aside0.mk (below_step (zb HB) hb); (try clear hb); have p10 : 0 ≤ (x4_1 : Int) := of_decide_eq_true za; have q10 : (x4_1 : Int) < ((x3_1.length : Int) : Int) := of_decide_eq_true za; obtain ⟨go10, co10, eo10, gb10, gl10, cl10, HG10⟩ := Kd.R_form HO_3.out (by omega); (first | cases eo10 | (injection eo10 with ea_ en_ ec_; (first | subst ea_ | (injection ea_ with ea_; subst ea_)); subst ec_; clear en_)); have GB10 := Aside0.mk gb10; have GG10 := Aside0.mk HG10; clear gb10 gl10 HG10; obtain ⟨ce10, hcl10, hM10, hcc10, hfr10⟩ := Kd.R_elem HO_3.out z110 (x4_1 : Int) p10 q10; obtain rfl := k110_openM hM10; have hx10_0 : w11.cell? ⟨go10, (x4_1 : Int).toNat * 4, none⟩ = some (.int .i64 ((rd_T110 x3_1 x4_1).f0)) := hcc10 0 _ rfl; have hx10_1 : w11.cell? ⟨go10, (x4_1 : Int).toNat * 4 + 1, none⟩ = some (.bool ((rd_T110 x3_1 x4_1).f1)) := hcc10 1 _ rfl; have hx10_2 : w11.cell? ⟨go10, (x4_1 : Int).toNat * 4 + 2, none⟩ = some (.int .i64 ((rd_T110 x3_1 x4_1).f2)) := hcc10 2 _ rfl; have hx10_3 : w11.cell? ⟨go10, (x4_1 : Int).toNat * 4 + 3, none⟩ = some (.string ((rd_T110 x3_1 x4_1).f3)) := hcc10 3 _ rfl; have hf10_0 : w11.frozen? ⟨go10, (x4_1 : Int).toNat * 4, none⟩ = false := hfr10 0; have hf10_1 : w11.frozen? ⟨go10, (x4_1 : Int).toNat * 4 + 1, none⟩ = false := hfr10 1; have hf10_2 : w11.frozen? ⟨go10, (x4_1 : Int).toNat * 4 + 2, none⟩ = false := hfr10 2; have hf10_3 : w11.frozen? ⟨go10, (x4_1 : Int).toNat * 4 + 3, none⟩ = false := hfr10 3; clear hcl10 hcc10 hfr10 hM10; replace p10 := eq_true p10; replace q10 := eq_true q10; have HX12 := Aside0.mk (show Kd.R k110 110 w11 w.heap.size (fun _ => True) (.slice (some ⟨go10, 0, none⟩) x3_1.length co10) x3_1 from (zr HO_3)); obtain ⟨ce12, hcl12, hM12, hcc12, hfr12⟩ := Kd.R_elem HX12.out z110 (x4_1 : Int) (of_decide_eq_true za) (by have h_ : (x4_1 : Int) < ((x3_1.length : Int) : Int) := of_decide_eq_true za; first | exact h_ | (have e_ := (Kd.R_reads' HO_3.out).1; omega) | simpa using h_); obtain rfl := k110_openM hM12; have HP12 := Kd.R_seg HX12.out (x4_1 : Int) (of_decide_eq_true za) (by have h_ : (x4_1 : Int) < ((x3_1.length : Int) : Int) := of_decide_eq_true za; first | exact h_ | (have e_ := (Kd.R_reads' HO_3.out).1; omega) | simpa using h_) (seg := [.int .i64 t302, .bool t303, .int .i64 t304, .string t305]) (j := 0) hcl12 hcc12 (show 4 ≤ 4 from by decide) (x' := (⟨t302, t303, t304, t305⟩ : S110)) (k110_mkM _ _ _ (⟨t302, t303, t304, t305⟩ : S110) ) (fun _ hk => hk); have hx12_0 := hcc12 0 _ rfl; (try simp only [show (k110).sz = 4 from rfl, Nat.mul_one, Nat.add_zero] at hx12_0); have hf12_0 := hfr12 0; (try simp only [show (k110).sz = 4 from rfl, Nat.mul_one, Nat.add_zero] at hf12_0); have hx12_1 := hcc12 1 _ rfl; (try simp only [show (k110).sz = 4 from rfl, Nat.mul_one, Nat.add_zero] at hx12_1); have hf12_1 := hfr12 1; (try simp only [show (k110).sz = 4 from rfl, Nat.mul_one, Nat.add_zero] at hf12_1); have hx12_2 := hcc12 2 _ rfl; (try simp only [show (k110).sz = 4 from rfl, Nat.mul_one, Nat.add_zero] at hx12_2); have hf12_2 := hfr12 2; (try simp only [show (k110).sz = 4 from rfl, Nat.mul_one, Nat.add_zero] at hf12_2); have hx12_3 := hcc12 3 _ rfl; (try simp only [show (k110).sz = 4 from rfl, Nat.mul_one, Nat.add_zero] at hx12_3); have hf12_3 := hfr12 3; (try simp only [show (k110).sz = 4 from rfl, Nat.mul_one, Nat.add_zero] at hf12_3); clear hcl12 hcc12 hfr12 hM12) | ((with_reducible refine gate_store (t := 110) (p := 21) rfl ?_); refine store_event (t := 110) (p := 21) (v := ?vo_w13) (w1 := ((((w11.setCell ⟨go10, (x4_1 : Int).toNat * 4, none⟩ (.int .i64 t302)).setCell ⟨go10, (x4_1 : Int).toNat * 4 + 1, none⟩ (.bool t303)).setCell ⟨go10, (x4_1 : Int).toNat * 4 + 2, none⟩ (.int .i64 t304)).setCell ⟨go10, (x4_1 : Int).toNat * 4 + 3, none⟩ (.string t305))) ?hg ?ho ?hn ?hr ?_; (case ho => rfl); (case hg => rfl); (case hn => rfl); (case hr => first | (go_simp; done) | (go_simp; rfl)); intro w13 hw; have hg : w11.grownBy w13 (some go10) := (by rw [hw]; exact HP12.2); have hp_ : Kd.R k110 110 w13 w.heap.size (fun _ => True) (.slice (some ⟨go10, 0, none⟩) x3_1.length co10) y306 := (by rw [hw, Ny306.out]; exact HP12.1); clear HP12; replace HO_3 := Aside0.mk (hp_); replace HB := Aside0.mk ((by rw [hw]; exact below_set (below_set (below_set (below_set (HB.out) GB10.out) GB10.out) GB10.out) GB10.out : Below w.heap.size w w13)); clear hg hw hp_))
        go_roundg k1
        case measure => have := HK1.out; omega
        case rel => exact ⟨(y306), (wrap64 (x4_1 + 1)), zs, H', ⟨by have := HK1.out; omega⟩, ⟨by exact zr HO_3⟩, ⟨zb HB⟩⟩
       ·rw [if_neg c9] at H
        exact absurd H (by simp)
      ·rw [if_neg c7] at H
       exact absurd H (by simp)
     ·rw [if_neg c6] at H
      have c6b0 := decide_eq_false c6
      clear c6
      obtain rfl := Option.some.inj H
      go_wp2
      go_ret
      exact ⟨_, ze, zq (HO_3.out), zb HB⟩
  ·rw [if_neg c3] at H
   exact absurd H (by simp)
 ·skip
  exact absurd H (by simp)

/-! ### laws_toEnd: function 37 -/
-- thin
def laws_toEnd.f (k : Nat) (a0_0 : Bool) (l0_1 : List (S192)) (a0_2 : Int) (l0_3 : List (S192)) (a0_4 : Int) (a0_5 : ByteArray) (l0_6 : List (S167)) (a0_7 : Int) (a0_8 : Int) (l0_9 : List (S169)) (a0_10 : Bool) : Option (Bool × (List (S88)) × Int × (List (S88)) × Int × ByteArray × (List (S104)) × Int × Int × (List (S110)) × Bool) := (laws_toTable.f k l0_1 a0_2).bind fun bt310 => ((laws_toTable.f k l0_3 a0_4).bind fun bt314 => ((laws_toStreamS.f k l0_6).bind fun t318 => ((laws_toFlow.f a0_7 a0_8).bind fun bt321 => ((laws_toFrameS.f k l0_9).bind fun t323 => (some (a0_0, bt310.1, bt310.2, bt314.1, bt314.2, a0_5, t318, bt321.1, bt321.2, t323, a0_10))))))
theorem laws_toEnd.mono : ∀ a0 a1 a2 a3 a4 a5 a6 a7 a8 a9 a10 k, LeO (laws_toEnd.f k a0 a1 a2 a3 a4 a5 a6 a7 a8 a9 a10) (laws_toEnd.f (k + 1) a0 a1 a2 a3 a4 a5 a6 a7 a8 a9 a10) := by
 intro a0 a1 a2 a3 a4 a5 a6 a7 a8 a9 a10 k
 unfold laws_toEnd.f
 have m0 := @laws_toFrameS.mono
 have m1 := @laws_toStreamS.mono
 have m2 := @laws_toTable.mono
 exact zm
set_option maxHeartbeats 8000000 in
set_option maxRecDepth 100000 in
theorem laws_toEnd.calls (k : Nat) (a0_0 : Bool) (A0_1 : Option Addr) (c0_1 : Nat) (l0_1 : List (S192)) (a0_2 : Int) (A0_3 : Option Addr) (c0_3 : Nat) (l0_3 : List (S192)) (a0_4 : Int) (a0_5 : ByteArray) (A0_6 : Option Addr) (c0_6 : Nat) (l0_6 : List (S167)) (a0_7 : Int) (a0_8 : Int) (A0_9 : Option Addr) (c0_9 : Nat) (l0_9 : List (S169)) (a0_10 : Bool) (r1 : Bool) (r2 : List (S88)) (r3 : Int) (r4 : List (S88)) (r5 : Int) (r6 : ByteArray) (r7 : List (S104)) (r8 : Int) (r9 : Int) (r10 : List (S110)) (r11 : Bool) (w : World) (hr0_1 : Kd.C k192 w A0_1 l0_1.length l0_1) (hc0_1 : l0_1.length ≤ c0_1) (hr0_3 : Kd.C k192 w A0_3 l0_3.length l0_3) (hc0_3 : l0_3.length ≤ c0_3) (hr0_6 : Kd.C k167 w A0_6 l0_6.length l0_6) (hc0_6 : l0_6.length ≤ c0_6) (hr0_9 : Kd.C k169 w A0_9 l0_9.length l0_9) (hc0_9 : l0_9.length ≤ c0_9) (h : laws_toEnd.f k a0_0 l0_1 a0_2 l0_3 a0_4 a0_5 l0_6 a0_7 a0_8 l0_9 a0_10 = some (r1, r2, r3, r4, r5, r6, r7, r8, r9, r10, r11)) :
  Calls Try.prog 37 #[.agg #[.bool a0_0, .slice A0_1 l0_1.length c0_1, .int .i64 a0_2, .slice A0_3 l0_3.length c0_3, .int .i64 a0_4, .string a0_5, .slice A0_6 l0_6.length c0_6, .int .i64 a0_7, .int .i64 a0_8, .slice A0_9 l0_9.length c0_9, .bool a0_10]] w fun e w' => ∃ v1_ v3_ v6_ v9_ : Value, e = .returned (.agg #[.bool r1, v1_, .int .i64 r3, v3_, .int .i64 r5, .string r6, v6_, .int .i64 r8, .int .i64 r9, v9_, .bool r11]) ∧ Kd.R k88 88 w' w.heap.size (fun k_ => some k_ ≠ (v3_ : Value).ownBlock) v1_ r2 ∧ Kd.R k88 88 w' w.heap.size (fun k_ => some k_ ≠ (v1_ : Value).ownBlock) v3_ r4 ∧ Kd.S k104 104 w' w.heap.size (fun k_ => some k_ ≠ (v1_ : Value).ownBlock ∧ some k_ ≠ (v3_ : Value).ownBlock) v6_ r7 ∧ Kd.R k110 110 w' w.heap.size (fun _ => True) v9_ r10 ∧ Below w.heap.size w w' := by
 have hu64 := Try.underlying64
 have hu42 := Try.underlying42
 have hu59 := Try.underlying59
 have hu25 := Try.underlying25
 have hu61 := Try.underlying61
 have hu39 := Try.underlying39
 have HR0_1 := Aside0.mk hr0_1
 have HC0_1 := Aside0.mk hc0_1
 clear hr0_1 hc0_1
 have HR0_3 := Aside0.mk hr0_3
 have HC0_3 := Aside0.mk hc0_3
 clear hr0_3 hc0_3
 have HR0_6 := Aside0.mk hr0_6
 have HC0_6 := Aside0.mk hc0_6
 clear hr0_6 hc0_6
 have HR0_9 := Aside0.mk hr0_9
 have HC0_9 := Aside0.mk hc0_9
 clear hr0_9 hc0_9
 have HB := Aside0.mk (Below.refl w.heap.size w)
 have H : ((laws_toTable.f k l0_1 a0_2).bind fun bt310 => ((laws_toTable.f k l0_3 a0_4).bind fun bt314 => ((laws_toStreamS.f k l0_6).bind fun t318 => ((laws_toFlow.f a0_7 a0_8).bind fun bt321 => ((laws_toFrameS.f k l0_9).bind fun t323 => (some (a0_0, bt310.1, bt310.2, bt314.1, bt314.2, a0_5, t318, bt321.1, bt321.2, t323, a0_10))))))) = some (r1, r2, r3, r4, r5, r6, r7, r8, r9, r10, r11) := h
 clear h
 obtain ⟨⟨t310, t313⟩, A2, H⟩ := ob H
 (try dsimp only at H)
 obtain ⟨⟨t314, t317⟩, A3, H⟩ := ob H
 (try dsimp only at H)
 obtain ⟨t318, A4, H⟩ := ob H
 (try dsimp only at H)
 obtain ⟨⟨t321, t322⟩, A5, H⟩ := ob H
 (try dsimp only at H)
 obtain ⟨t323, A6, H⟩ := ob H
 (try dsimp only at H)
 simp only [Option.some.injEq, Prod.mk.injEq] at H
 obtain ⟨rfl, rfl, rfl, rfl, rfl, rfl, rfl, rfl, rfl, rfl, rfl⟩ := H
 go_enter Try.func37, Try.ntmps37
 go_wp2_with (first | ((with_reducible refine gd 1 rfl ?_); refine bx (N := 1) (cs := #[.bool a0_0, .slice A0_1 l0_1.length c0_1, .int .i64 a0_2, .slice A0_3 l0_3.length c0_3, .int .i64 a0_4, .string a0_5, .slice A0_6 l0_6.length c0_6, .int .i64 a0_7, .int .i64 a0_8, .slice A0_9 l0_9.length c0_9, .bool a0_10]) (t := 64) ?_; intro gb307 hg w7 hbox hb; have BK307 := Aside0.mk (hbox); have GW307 := gw HB hg; have GE307 := GW307; replace HB := Aside0.mk (below_step (zb HB) hb); clear hb hbox hg) | ((with_reducible refine gd 2 rfl ?_); refine bx (N := 2) (cs := #[.bool false, .slice none 0 0, .int .i64 0, .slice none 0 0, .int .i64 0, .string (⟨#[]⟩ : ByteArray), .slice none 0 0, .int .i64 0, .int .i64 0, .slice none 0 0, .bool false]) (t := 42) ?_; intro gb308 hg w8 hbox hb; have BK308 := Aside0.mk (hbox); have GW308 := gw HB hg; have GE308 := GW308; replace HB := Aside0.mk (below_step (zb HB) hb); obtain ⟨NB307_308, NB308_307⟩ := nb BK307 hg; replace BK307 := kb BK307 hb; clear hb hbox hg) | ((with_reducible refine gd 3 rfl ?_); refine bx (N := 3) (cs := #[.bool false, .slice none 0 0, .int .i64 0, .slice none 0 0, .int .i64 0, .string (⟨#[]⟩ : ByteArray), .slice none 0 0, .int .i64 0, .int .i64 0, .slice none 0 0, .bool false]) (t := 42) ?_; intro gb309 hg w9 hbox hb; have BK309 := Aside0.mk (hbox); have GW309 := gw HB hg; have GE309 := GW309; replace HB := Aside0.mk (below_step (zb HB) hb); obtain ⟨NB307_309, NB309_307⟩ := nb BK307 hg; replace BK307 := kb BK307 hb; obtain ⟨NB308_309, NB309_308⟩ := nb BK308 hg; replace BK308 := kb BK308 hb; clear hb hbox hg; have hnb10 := NB307_308.out; have hnc10 := NB308_307.out; have hnb11 := NB307_309.out; have hnc11 := NB309_307.out; obtain ⟨hcz12_0, hcz12_1, hcz12_2, hcz12_3, hcz12_4, hcz12_5, hcz12_6, hcz12_7, hcz12_8, hcz12_9, hcz12_10, hfz12_0, hfz12_1, hfz12_2, hfz12_3, hfz12_4, hfz12_5, hfz12_6, hfz12_7, hfz12_8, hfz12_9, hfz12_10⟩ := c11 BK307; have hnb13 := NB309_308.out; have hnc13 := NB308_309.out; obtain ⟨hcz14_0, hcz14_1, hcz14_2, hcz14_3, hcz14_4, hcz14_5, hcz14_6, hcz14_7, hcz14_8, hcz14_9, hcz14_10, hfz14_0, hfz14_1, hfz14_2, hfz14_3, hfz14_4, hfz14_5, hfz14_6, hfz14_7, hfz14_8, hfz14_9, hfz14_10⟩ := c11 BK309) | ((with_reducible refine gq 95 rfl ?_); refine gl (some 9) Try.func95 #[.agg #[.slice A0_1 l0_1.length c0_1, .int .i64 a0_2]] ?_; (with_reducible refine (laws_toTable.calls k _ _ l0_1 a0_2 t310 t313 _ ?side1 ?side2 A2.out).mono ?_); (case side1 => exact Kd.C_below HR0_1.out (zb HB)); (case side2 => exact HC0_1.out); rintro e w15 ⟨v311, rfl, ho0, hb⟩; refine ⟨_, rfl, ?_⟩; have HO312 := Aside0.mk (Kd.R_lower ho0 (below_size (zb HB))); replace BK307 := Aside0.mk (blk_below (g := gb307) (o := .cells #[.bool a0_0, .slice A0_1 l0_1.length c0_1, .int .i64 a0_2, .slice A0_3 l0_3.length c0_3, .int .i64 a0_4, .string a0_5, .slice A0_6 l0_6.length c0_6, .int .i64 a0_7, .int .i64 a0_8, .slice A0_9 l0_9.length c0_9, .bool a0_10] 64 (0, 0)) (zp BK307) hb); replace BK308 := Aside0.mk (blk_below (g := gb308) (o := .cells #[.bool false, .slice none 0 0, .int .i64 0, .slice none 0 0, .int .i64 0, .string (⟨#[]⟩ : ByteArray), .slice none 0 0, .int .i64 0, .int .i64 0, .slice none 0 0, .bool false] 42 (0, 0)) (zp BK308) hb); replace BK309 := Aside0.mk (blk_below (g := gb309) (o := .cells #[.bool a0_0, .slice none 0 0, .int .i64 0, .slice none 0 0, .int .i64 0, .string (⟨#[]⟩ : ByteArray), .slice none 0 0, .int .i64 0, .int .i64 0, .slice none 0 0, .bool false] 42 (0, 0)) (zp BK309) hb); replace HB := Aside0.mk (below_step (zb HB) hb); (try clear hb); (try clear ho0); obtain ⟨Ao16, co16, eo16⟩ := Kd.R_slice HO312.out; subst eo16; obtain ⟨hcz17_0, hcz17_1, hcz17_2, hcz17_3, hcz17_4, hcz17_5, hcz17_6, hcz17_7, hcz17_8, hcz17_9, hcz17_10, hfz17_0, hfz17_1, hfz17_2, hfz17_3, hfz17_4, hfz17_5, hfz17_6, hfz17_7, hfz17_8, hfz17_9, hfz17_10⟩ := c11 BK309; obtain ⟨hcz18_0, hcz18_1, hcz18_2, hcz18_3, hcz18_4, hcz18_5, hcz18_6, hcz18_7, hcz18_8, hcz18_9, hcz18_10, hfz18_0, hfz18_1, hfz18_2, hfz18_3, hfz18_4, hfz18_5, hfz18_6, hfz18_7, hfz18_8, hfz18_9, hfz18_10⟩ := c11 BK307) | ((with_reducible refine gq 95 rfl ?_); refine gl (some 13) Try.func95 #[.agg #[.slice A0_3 l0_3.length c0_3, .int .i64 a0_4]] ?_; (with_reducible refine (laws_toTable.calls k _ _ l0_3 a0_4 t314 t317 _ ?side1 ?side2 A3.out).mono ?_); (case side1 => exact Kd.C_below HR0_3.out (zb HB)); (case side2 => exact HC0_3.out); rintro e w19 ⟨v315, rfl, ho0, hb⟩; refine ⟨_, rfl, ?_⟩; have HO316 := Aside0.mk (Kd.R_lower (Kd.R_new' ho0 (Kd.R_lt (zq ((Kd.R_mono (Kd.R_far (p := ⟨gb309, 2, none⟩) (Kd.R_far (p := ⟨gb309, 1, none⟩) (Kd.R_types HO312.out BK309.out (by decide)) (fun _ hk => hk.2) (.slice Ao16 t310.length co16)) (fun _ hk => hk.2) (.int .i64 t313)) (fun _ h_ => h_.1)))))) (below_size (zb HB))); replace HO312 := Aside0.mk (Kd.R_elder' (zq ((Kd.R_mono (Kd.R_far (p := ⟨gb309, 2, none⟩) (Kd.R_far (p := ⟨gb309, 1, none⟩) (Kd.R_types HO312.out BK309.out (by decide)) (fun _ hk => hk.2) (.slice Ao16 t310.length co16)) (fun _ hk => hk.2) (.int .i64 t313)) (fun _ h_ => h_.1)))) (Kd.R_base ho0) hb); replace BK307 := Aside0.mk (blk_below (g := gb307) (o := .cells #[.bool a0_0, .slice A0_1 l0_1.length c0_1, .int .i64 a0_2, .slice A0_3 l0_3.length c0_3, .int .i64 a0_4, .string a0_5, .slice A0_6 l0_6.length c0_6, .int .i64 a0_7, .int .i64 a0_8, .slice A0_9 l0_9.length c0_9, .bool a0_10] 64 (0, 0)) (zp BK307) hb); replace BK308 := Aside0.mk (blk_below (g := gb308) (o := .cells #[.bool false, .slice none 0 0, .int .i64 0, .slice none 0 0, .int .i64 0, .string (⟨#[]⟩ : ByteArray), .slice none 0 0, .int .i64 0, .int .i64 0, .slice none 0 0, .bool false] 42 (0, 0)) (zp BK308) hb); replace BK309 := Aside0.mk (blk_below (g := gb309) (o := .cells #[.bool a0_0, .slice Ao16 t310.length co16, .int .i64 t313, .slice none 0 0, .int .i64 0, .string (⟨#[]⟩ : ByteArray), .slice none 0 0, .int .i64 0, .int .i64 0, .slice none 0 0, .bool false] 42 (0, 0)) (zp BK309) hb); replace HB := Aside0.mk (below_step (zb HB) hb); (try clear hb); (try clear ho0); obtain ⟨Ao20, co20, eo20⟩ := Kd.R_slice HO316.out; subst eo20; obtain ⟨hcz21_0, hcz21_1, hcz21_2, hcz21_3, hcz21_4, hcz21_5, hcz21_6, hcz21_7, hcz21_8, hcz21_9, hcz21_10, hfz21_0, hfz21_1, hfz21_2, hfz21_3, hfz21_4, hfz21_5, hfz21_6, hfz21_7, hfz21_8, hfz21_9, hfz21_10⟩ := c11 BK309; obtain ⟨hcz22_0, hcz22_1, hcz22_2, hcz22_3, hcz22_4, hcz22_5, hcz22_6, hcz22_7, hcz22_8, hcz22_9, hcz22_10, hfz22_0, hfz22_1, hfz22_2, hfz22_3, hfz22_4, hfz22_5, hfz22_6, hfz22_7, hfz22_8, hfz22_9, hfz22_10⟩ := c11 BK307) | ((with_reducible refine gq 96 rfl ?_); refine gl (some 20) Try.func96 #[.slice A0_6 l0_6.length c0_6] ?_; (with_reducible refine (laws_toStreamS.calls k _ _ l0_6 t318 _ ?side1 ?side2 A4.out).mono ?_); (case side1 => exact Kd.C_below HR0_6.out (zb HB)); (case side2 => exact HC0_6.out); rintro e w23 ⟨v319, rfl, ho0, hb⟩; refine ⟨_, rfl, ?_⟩; have HO320 := Aside0.mk (Kd.S_lower (Kd.S_new' (Kd.S_new' ho0 (Kd.R_lt (zq ((Kd.R_mono (Kd.R_far (p := ⟨gb309, 5, none⟩) (Kd.R_far (p := ⟨gb309, 4, none⟩) (Kd.R_far (p := ⟨gb309, 3, none⟩) (Kd.R_types HO312.out BK309.out (by decide)) (fun _ hk => hk.2) (.slice Ao20 t314.length co20)) (fun _ hk => hk.2) (.int .i64 t317)) (fun _ hk => hk.2) (.string a0_5)) (fun _ h_ => h_.1)))))) (Kd.R_lt (zq ((Kd.R_mono (Kd.R_far (p := ⟨gb309, 5, none⟩) (Kd.R_far (p := ⟨gb309, 4, none⟩) (Kd.R_far (p := ⟨gb309, 3, none⟩) (Kd.R_types HO316.out BK309.out (by decide)) (fun _ hk => hk.2) (.slice Ao20 t314.length co20)) (fun _ hk => hk.2) (.int .i64 t317)) (fun _ hk => hk.2) (.string a0_5)) (fun _ h_ => h_.1)))))) (below_size (zb HB))); replace HO312 := Aside0.mk (Kd.R_below (zq ((Kd.R_mono (Kd.R_far (p := ⟨gb309, 5, none⟩) (Kd.R_far (p := ⟨gb309, 4, none⟩) (Kd.R_far (p := ⟨gb309, 3, none⟩) (Kd.R_types HO312.out BK309.out (by decide)) (fun _ hk => hk.2) (.slice Ao20 t314.length co20)) (fun _ hk => hk.2) (.int .i64 t317)) (fun _ hk => hk.2) (.string a0_5)) (fun _ h_ => h_.1)))) hb); replace HO316 := Aside0.mk (Kd.R_below (zq ((Kd.R_mono (Kd.R_far (p := ⟨gb309, 5, none⟩) (Kd.R_far (p := ⟨gb309, 4, none⟩) (Kd.R_far (p := ⟨gb309, 3, none⟩) (Kd.R_types HO316.out BK309.out (by decide)) (fun _ hk => hk.2) (.slice Ao20 t314.length co20)) (fun _ hk => hk.2) (.int .i64 t317)) (fun _ hk => hk.2) (.string a0_5)) (fun _ h_ => h_.1)))) hb); replace BK307 := Aside0.mk (blk_below (g := gb307) (o := .cells #[.bool a0_0, .slice A0_1 l0_1.length c0_1, .int .i64 a0_2, .slice A0_3 l0_3.length c0_3, .int .i64 a0_4, .string a0_5, .slice A0_6 l0_6.length c0_6, .int .i64 a0_7, .int .i64 a0_8, .slice A0_9 l0_9.length c0_9, .bool a0_10] 64 (0, 0)) (zp BK307) hb); replace BK308 := Aside0.mk (blk_below (g := gb308) (o := .cells #[.bool false, .slice none 0 0, .int .i64 0, .slice none 0 0, .int .i64 0, .string (⟨#[]⟩ : ByteArray), .slice none 0 0, .int .i64 0, .int .i64 0, .slice none 0 0, .bool false] 42 (0, 0)) (zp BK308) hb); replace BK309 := Aside0.mk (blk_below (g := gb309) (o := .cells #[.bool a0_0, .slice Ao16 t310.length co16, .int .i64 t313, .slice Ao20 t314.length co20, .int .i64 t317, .string a0_5, .slice none 0 0, .int .i64 0, .int .i64 0, .slice none 0 0, .bool false] 42 (0, 0)) (zp BK309) hb); replace HB := Aside0.mk (below_step (zb HB) hb); (try clear hb); (try clear ho0); obtain ⟨Ao24, co24, eo24⟩ := Kd.S_slice HO320.out; subst eo24; obtain ⟨hcz25_0, hcz25_1, hcz25_2, hcz25_3, hcz25_4, hcz25_5, hcz25_6, hcz25_7, hcz25_8, hcz25_9, hcz25_10, hfz25_0, hfz25_1, hfz25_2, hfz25_3, hfz25_4, hfz25_5, hfz25_6, hfz25_7, hfz25_8, hfz25_9, hfz25_10⟩ := c11 BK309; obtain ⟨hcz26_0, hcz26_1, hcz26_2, hcz26_3, hcz26_4, hcz26_5, hcz26_6, hcz26_7, hcz26_8, hcz26_9, hcz26_10, hfz26_0, hfz26_1, hfz26_2, hfz26_3, hfz26_4, hfz26_5, hfz26_6, hfz26_7, hfz26_8, hfz26_9, hfz26_10⟩ := c11 BK307) | ((with_reducible refine gq 97 rfl ?_); refine gl (some 24) Try.func97 #[.agg #[.int .i64 a0_7, .int .i64 a0_8]] ?_; (with_reducible refine (laws_toFlow.calls a0_7 a0_8 t321 t322 _ A5.out).mono ?_); rintro e w27 ⟨rfl, hb⟩; refine ⟨_, rfl, ?_⟩; replace HO312 := Aside0.mk (Kd.R_below (zq ((Kd.R_mono (Kd.R_far (p := ⟨gb309, 6, none⟩) (Kd.R_types HO312.out BK309.out (by decide)) (fun _ hk => hk.2) (.slice Ao24 t318.length co24)) (fun _ h_ => h_.1)))) hb); replace HO316 := Aside0.mk (Kd.R_below (zq ((Kd.R_mono (Kd.R_far (p := ⟨gb309, 6, none⟩) (Kd.R_types HO316.out BK309.out (by decide)) (fun _ hk => hk.2) (.slice Ao24 t318.length co24)) (fun _ h_ => h_.1)))) hb); replace HO320 := Aside0.mk (Kd.S_below (by (with_reducible repeat (first | apply Kd.S_alloc | apply Kd.S_drewN | apply Kd.S_drew)); exact (Kd.S_mono (Kd.S_far (p := ⟨gb309, 6, none⟩) (Kd.S_types HO320.out BK309.out (by decide)) (fun _ hk => hk.2) (.slice Ao24 t318.length co24)) (fun _ h_ => h_.1))) hb); replace BK307 := Aside0.mk (blk_below (g := gb307) (o := .cells #[.bool a0_0, .slice A0_1 l0_1.length c0_1, .int .i64 a0_2, .slice A0_3 l0_3.length c0_3, .int .i64 a0_4, .string a0_5, .slice A0_6 l0_6.length c0_6, .int .i64 a0_7, .int .i64 a0_8, .slice A0_9 l0_9.length c0_9, .bool a0_10] 64 (0, 0)) (zp BK307) hb); replace BK308 := Aside0.mk (blk_below (g := gb308) (o := .cells #[.bool false, .slice none 0 0, .int .i64 0, .slice none 0 0, .int .i64 0, .string (⟨#[]⟩ : ByteArray), .slice none 0 0, .int .i64 0, .int .i64 0, .slice none 0 0, .bool false] 42 (0, 0)) (zp BK308) hb); replace BK309 := Aside0.mk (blk_below (g := gb309) (o := .cells #[.bool a0_0, .slice Ao16 t310.length co16, .int .i64 t313, .slice Ao20 t314.length co20, .int .i64 t317, .string a0_5, .slice Ao24 t318.length co24, .int .i64 0, .int .i64 0, .slice none 0 0, .bool false] 42 (0, 0)) (zp BK309) hb); replace HB := Aside0.mk (below_step (zb HB) hb); (try clear hb); obtain ⟨hcz28_0, hcz28_1, hcz28_2, hcz28_3, hcz28_4, hcz28_5, hcz28_6, hcz28_7, hcz28_8, hcz28_9, hcz28_10, hfz28_0, hfz28_1, hfz28_2, hfz28_3, hfz28_4, hfz28_5, hfz28_6, hfz28_7, hfz28_8, hfz28_9, hfz28_10⟩ := c11 BK309; obtain ⟨hcz29_0, hcz29_1, hcz29_2, hcz29_3, hcz29_4, hcz29_5, hcz29_6, hcz29_7, hcz29_8, hcz29_9, hcz29_10, hfz29_0, hfz29_1, hfz29_2, hfz29_3, hfz29_4, hfz29_5, hfz29_6, hfz29_7, hfz29_8, hfz29_9, hfz29_10⟩ := c11 BK307) | ((with_reducible refine gq 98 rfl ?_); refine gl (some 28) Try.func98 #[.slice A0_9 l0_9.length c0_9] ?_; (with_reducible refine (laws_toFrameS.calls k _ _ l0_9 t323 _ ?side1 ?side2 A6.out).mono ?_); (case side1 => exact Kd.C_below HR0_9.out (zb HB)); (case side2 => exact HC0_9.out); rintro e w30 ⟨v324, rfl, ho0, hb⟩; refine ⟨_, rfl, ?_⟩; replace HO312 := Aside0.mk (Kd.R_below (zq ((Kd.R_mono (Kd.R_far (p := ⟨gb309, 8, none⟩) (Kd.R_far (p := ⟨gb309, 7, none⟩) (Kd.R_types HO312.out BK309.out (by decide)) (fun _ hk => hk.2) (.int .i64 t321)) (fun _ hk => hk.2) (.int .i64 t322)) (fun _ h_ => h_.1)))) hb); replace HO316 := Aside0.mk (Kd.R_below (zq ((Kd.R_mono (Kd.R_far (p := ⟨gb309, 8, none⟩) (Kd.R_far (p := ⟨gb309, 7, none⟩) (Kd.R_types HO316.out BK309.out (by decide)) (fun _ hk => hk.2) (.int .i64 t321)) (fun _ hk => hk.2) (.int .i64 t322)) (fun _ h_ => h_.1)))) hb); replace HO320 := Aside0.mk (Kd.S_below (by (with_reducible repeat (first | apply Kd.S_alloc | apply Kd.S_drewN | apply Kd.S_drew)); exact (Kd.S_mono (Kd.S_far (p := ⟨gb309, 8, none⟩) (Kd.S_far (p := ⟨gb309, 7, none⟩) (Kd.S_types HO320.out BK309.out (by decide)) (fun _ hk => hk.2) (.int .i64 t321)) (fun _ hk => hk.2) (.int .i64 t322)) (fun _ h_ => h_.1))) hb); have HO325 := Aside0.mk (Kd.R_lower ho0 (below_size (zb HB))); replace BK307 := Aside0.mk (blk_below (g := gb307) (o := .cells #[.bool a0_0, .slice A0_1 l0_1.length c0_1, .int .i64 a0_2, .slice A0_3 l0_3.length c0_3, .int .i64 a0_4, .string a0_5, .slice A0_6 l0_6.length c0_6, .int .i64 a0_7, .int .i64 a0_8, .slice A0_9 l0_9.length c0_9, .bool a0_10] 64 (0, 0)) (zp BK307) hb); replace BK308 := Aside0.mk (blk_below (g := gb308) (o := .cells #[.bool false, .slice none 0 0, .int .i64 0, .slice none 0 0, .int .i64 0, .string (⟨#[]⟩ : ByteArray), .slice none 0 0, .int .i64 0, .int .i64 0, .slice none 0 0, .bool false] 42 (0, 0)) (zp BK308) hb); replace BK309 := Aside0.mk (blk_below (g := gb309) (o := .cells #[.bool a0_0, .slice Ao16 t310.length co16, .int .i64 t313, .slice Ao20 t314.length co20, .int .i64 t317, .string a0_5, .slice Ao24 t318.length co24, .int .i64 t321, .int .i64 t322, .slice none 0 0, .bool false] 42 (0, 0)) (zp BK309) hb); replace HB := Aside0.mk (below_step (zb HB) hb); (try clear hb); (try clear ho0); obtain ⟨Ao31, co31, eo31⟩ := Kd.R_slice HO325.out; subst eo31; obtain ⟨hcz32_0, hcz32_1, hcz32_2, hcz32_3, hcz32_4, hcz32_5, hcz32_6, hcz32_7, hcz32_8, hcz32_9, hcz32_10, hfz32_0, hfz32_1, hfz32_2, hfz32_3, hfz32_4, hfz32_5, hfz32_6, hfz32_7, hfz32_8, hfz32_9, hfz32_10⟩ := c11 BK309; obtain ⟨hcz33_0, hcz33_1, hcz33_2, hcz33_3, hcz33_4, hcz33_5, hcz33_6, hcz33_7, hcz33_8, hcz33_9, hcz33_10, hfz33_0, hfz33_1, hfz33_2, hfz33_3, hfz33_4, hfz33_5, hfz33_6, hfz33_7, hfz33_8, hfz33_9, hfz33_10⟩ := c11 BK307; obtain ⟨hcz34_0, hcz34_1, hcz34_2, hcz34_3, hcz34_4, hcz34_5, hcz34_6, hcz34_7, hcz34_8, hcz34_9, hcz34_10, hfz34_0, hfz34_1, hfz34_2, hfz34_3, hfz34_4, hfz34_5, hfz34_6, hfz34_7, hfz34_8, hfz34_9, hfz34_10⟩ := c11 BK308))
 refine bodyPost_ret (results_cell_row rfl _ _ gb308 42 #[.bool a0_0, .slice Ao16 t310.length co16, .int .i64 t313, .slice Ao20 t314.length co20, .int .i64 t317, .string a0_5, .slice Ao24 t318.length co24, .int .i64 t321, .int .i64 t322, .slice Ao31 t323.length co31, .bool a0_10] (0, 0) _ rfl (zp BK308) Try.underlying42 rfl (by kernel_rfl)) rfl ?_
 exact ⟨_, _, _, _, ze, zq (Kd.R_mono (Kd.R_far (p := ⟨gb308, 10, none⟩) (Kd.R_far (p := ⟨gb308, 9, none⟩) (Kd.R_far (p := ⟨gb308, 8, none⟩) (Kd.R_far (p := ⟨gb308, 7, none⟩) (Kd.R_far (p := ⟨gb308, 6, none⟩) (Kd.R_far (p := ⟨gb308, 5, none⟩) (Kd.R_far (p := ⟨gb308, 4, none⟩) (Kd.R_far (p := ⟨gb308, 3, none⟩) (Kd.R_far (p := ⟨gb308, 2, none⟩) (Kd.R_far (p := ⟨gb308, 1, none⟩) (Kd.R_far (p := ⟨gb308, 0, none⟩) (Kd.R_far (p := ⟨gb309, 10, none⟩) (Kd.R_far (p := ⟨gb309, 9, none⟩) (Kd.R_types (Kd.R_types HO312.out BK309.out (by decide)) BK308.out (by decide)) (fun _ hk => hk.1.2) (.slice Ao31 t323.length co31)) (fun _ hk => hk.1.2) (.bool a0_10)) (fun _ hk => hk.2) (.bool a0_0)) (fun _ hk => hk.2) (.slice Ao16 t310.length co16)) (fun _ hk => hk.2) (.int .i64 t313)) (fun _ hk => hk.2) (.slice Ao20 t314.length co20)) (fun _ hk => hk.2) (.int .i64 t317)) (fun _ hk => hk.2) (.string a0_5)) (fun _ hk => hk.2) (.slice Ao24 t318.length co24)) (fun _ hk => hk.2) (.int .i64 t321)) (fun _ hk => hk.2) (.int .i64 t322)) (fun _ hk => hk.2) (.slice Ao31 t323.length co31)) (fun _ hk => hk.2) (.bool a0_10)) (fun _ hk => hk.1.1.2)), zq (Kd.R_mono (Kd.R_far (p := ⟨gb308, 10, none⟩) (Kd.R_far (p := ⟨gb308, 9, none⟩) (Kd.R_far (p := ⟨gb308, 8, none⟩) (Kd.R_far (p := ⟨gb308, 7, none⟩) (Kd.R_far (p := ⟨gb308, 6, none⟩) (Kd.R_far (p := ⟨gb308, 5, none⟩) (Kd.R_far (p := ⟨gb308, 4, none⟩) (Kd.R_far (p := ⟨gb308, 3, none⟩) (Kd.R_far (p := ⟨gb308, 2, none⟩) (Kd.R_far (p := ⟨gb308, 1, none⟩) (Kd.R_far (p := ⟨gb308, 0, none⟩) (Kd.R_far (p := ⟨gb309, 10, none⟩) (Kd.R_far (p := ⟨gb309, 9, none⟩) (Kd.R_types (Kd.R_types HO316.out BK309.out (by decide)) BK308.out (by decide)) (fun _ hk => hk.1.2) (.slice Ao31 t323.length co31)) (fun _ hk => hk.1.2) (.bool a0_10)) (fun _ hk => hk.2) (.bool a0_0)) (fun _ hk => hk.2) (.slice Ao16 t310.length co16)) (fun _ hk => hk.2) (.int .i64 t313)) (fun _ hk => hk.2) (.slice Ao20 t314.length co20)) (fun _ hk => hk.2) (.int .i64 t317)) (fun _ hk => hk.2) (.string a0_5)) (fun _ hk => hk.2) (.slice Ao24 t318.length co24)) (fun _ hk => hk.2) (.int .i64 t321)) (fun _ hk => hk.2) (.int .i64 t322)) (fun _ hk => hk.2) (.slice Ao31 t323.length co31)) (fun _ hk => hk.2) (.bool a0_10)) (fun _ hk => hk.1.1.2)), by (with_reducible repeat (first | apply Kd.S_alloc | apply Kd.S_drewN | apply Kd.S_drew)); exact Kd.S_mono (Kd.S_far (p := ⟨gb308, 10, none⟩) (Kd.S_far (p := ⟨gb308, 9, none⟩) (Kd.S_far (p := ⟨gb308, 8, none⟩) (Kd.S_far (p := ⟨gb308, 7, none⟩) (Kd.S_far (p := ⟨gb308, 6, none⟩) (Kd.S_far (p := ⟨gb308, 5, none⟩) (Kd.S_far (p := ⟨gb308, 4, none⟩) (Kd.S_far (p := ⟨gb308, 3, none⟩) (Kd.S_far (p := ⟨gb308, 2, none⟩) (Kd.S_far (p := ⟨gb308, 1, none⟩) (Kd.S_far (p := ⟨gb308, 0, none⟩) (Kd.S_far (p := ⟨gb309, 10, none⟩) (Kd.S_far (p := ⟨gb309, 9, none⟩) (Kd.S_types (Kd.S_types HO320.out BK309.out (by decide)) BK308.out (by decide)) (fun _ hk => hk.1.2) (.slice Ao31 t323.length co31)) (fun _ hk => hk.1.2) (.bool a0_10)) (fun _ hk => hk.2) (.bool a0_0)) (fun _ hk => hk.2) (.slice Ao16 t310.length co16)) (fun _ hk => hk.2) (.int .i64 t313)) (fun _ hk => hk.2) (.slice Ao20 t314.length co20)) (fun _ hk => hk.2) (.int .i64 t317)) (fun _ hk => hk.2) (.string a0_5)) (fun _ hk => hk.2) (.slice Ao24 t318.length co24)) (fun _ hk => hk.2) (.int .i64 t321)) (fun _ hk => hk.2) (.int .i64 t322)) (fun _ hk => hk.2) (.slice Ao31 t323.length co31)) (fun _ hk => hk.2) (.bool a0_10)) (fun _ hk => ⟨hk.1.1.1.2, hk.1.1.2⟩), zq (Kd.R_mono (Kd.R_far (p := ⟨gb308, 10, none⟩) (Kd.R_far (p := ⟨gb308, 9, none⟩) (Kd.R_far (p := ⟨gb308, 8, none⟩) (Kd.R_far (p := ⟨gb308, 7, none⟩) (Kd.R_far (p := ⟨gb308, 6, none⟩) (Kd.R_far (p := ⟨gb308, 5, none⟩) (Kd.R_far (p := ⟨gb308, 4, none⟩) (Kd.R_far (p := ⟨gb308, 3, none⟩) (Kd.R_far (p := ⟨gb308, 2, none⟩) (Kd.R_far (p := ⟨gb308, 1, none⟩) (Kd.R_far (p := ⟨gb308, 0, none⟩) (Kd.R_far (p := ⟨gb309, 10, none⟩) (Kd.R_far (p := ⟨gb309, 9, none⟩) (Kd.R_types (Kd.R_types HO325.out BK309.out (by decide)) BK308.out (by decide)) (fun _ hk => hk.1.2) (.slice Ao31 t323.length co31)) (fun _ hk => hk.1.2) (.bool a0_10)) (fun _ hk => hk.2) (.bool a0_0)) (fun _ hk => hk.2) (.slice Ao16 t310.length co16)) (fun _ hk => hk.2) (.int .i64 t313)) (fun _ hk => hk.2) (.slice Ao20 t314.length co20)) (fun _ hk => hk.2) (.int .i64 t317)) (fun _ hk => hk.2) (.string a0_5)) (fun _ hk => hk.2) (.slice Ao24 t318.length co24)) (fun _ hk => hk.2) (.int .i64 t321)) (fun _ hk => hk.2) (.int .i64 t322)) (fun _ hk => hk.2) (.slice Ao31 t323.length co31)) (fun _ hk => hk.2) (.bool a0_10)) (fun _ hk => trivial)), zb HB⟩

/-! ### laws_FnExactEndOk: function 7 -/
-- thin
def laws_FnExactEndOk.f (k : Nat) (a0_0 : Bool) (l0_1 : List (S192)) (a0_2 : Int) (l0_3 : List (S192)) (a0_4 : Int) (a0_5 : ByteArray) (l0_6 : List (S167)) (a0_7 : Int) (a0_8 : Int) (l0_9 : List (S169)) (a0_10 : Bool) : Option (Bool) := (laws_szEnd.f k a0_0 l0_1 a0_2 l0_3 a0_4 a0_5 l0_6 a0_7 a0_8 l0_9 a0_10 1048576).bind fun t327 => (if t327 < 0 then (some true) else ((laws_toEnd.f k a0_0 l0_1 a0_2 l0_3 a0_4 a0_5 l0_6 a0_7 a0_8 l0_9 a0_10).bind fun bt328 => ((spec_EndOk.f k bt328.1 bt328.2.1 bt328.2.2.1 bt328.2.2.2.1 bt328.2.2.2.2.1 bt328.2.2.2.2.2.1 bt328.2.2.2.2.2.2.1 bt328.2.2.2.2.2.2.2.1 bt328.2.2.2.2.2.2.2.2.1 bt328.2.2.2.2.2.2.2.2.2.1 bt328.2.2.2.2.2.2.2.2.2.2).bind fun t347 => ((laws_toEnd.f k a0_0 l0_1 a0_2 l0_3 a0_4 a0_5 l0_6 a0_7 a0_8 l0_9 a0_10).bind fun bt348 => ((impl_EndOk.f k bt348.1 bt348.2.1 bt348.2.2.1 bt348.2.2.2.1 bt348.2.2.2.2.1 bt348.2.2.2.2.2.1 bt348.2.2.2.2.2.2.1 bt348.2.2.2.2.2.2.2.1 bt348.2.2.2.2.2.2.2.2.1 bt348.2.2.2.2.2.2.2.2.2.1 bt348.2.2.2.2.2.2.2.2.2.2).bind fun t368 => (if (t368 != t347) = true then (some false) else ((laws_toEnd.f k a0_0 l0_1 a0_2 l0_3 a0_4 a0_5 l0_6 a0_7 a0_8 l0_9 a0_10).bind fun bt369 => ((laws_eqEnd.f k bt348.1 bt348.2.1 bt348.2.2.1 bt348.2.2.2.1 bt348.2.2.2.2.1 bt348.2.2.2.2.2.1 bt348.2.2.2.2.2.2.1 bt348.2.2.2.2.2.2.2.1 bt348.2.2.2.2.2.2.2.2.1 bt348.2.2.2.2.2.2.2.2.2.1 bt348.2.2.2.2.2.2.2.2.2.2 bt369.1 bt369.2.1 bt369.2.2.1 bt369.2.2.2.1 bt369.2.2.2.2.1 bt369.2.2.2.2.2.1 bt369.2.2.2.2.2.2.1 bt369.2.2.2.2.2.2.2.1 bt369.2.2.2.2.2.2.2.2.1 bt369.2.2.2.2.2.2.2.2.2.1 bt369.2.2.2.2.2.2.2.2.2.2).bind fun t388 => (if t388 = true then (some true) else (some false))))))))))
theorem laws_FnExactEndOk.mono : ∀ a0 a1 a2 a3 a4 a5 a6 a7 a8 a9 a10 k, LeO (laws_FnExactEndOk.f k a0 a1 a2 a3 a4 a5 a6 a7 a8 a9 a10) (laws_FnExactEndOk.f (k + 1) a0 a1 a2 a3 a4 a5 a6 a7 a8 a9 a10) := by
 intro a0 a1 a2 a3 a4 a5 a6 a7 a8 a9 a10 k
 unfold laws_FnExactEndOk.f
 have m0 := @impl_EndOk.mono
 have m1 := @laws_eqEnd.mono
 have m2 := @laws_szEnd.mono
 have m3 := @laws_toEnd.mono
 have m4 := @spec_EndOk.mono
 exact zm
set_option maxHeartbeats 8000000 in
set_option maxRecDepth 100000 in
theorem laws_FnExactEndOk.calls (k : Nat) (a0_0 : Bool) (A0_1 : Option Addr) (c0_1 : Nat) (l0_1 : List (S192)) (a0_2 : Int) (A0_3 : Option Addr) (c0_3 : Nat) (l0_3 : List (S192)) (a0_4 : Int) (a0_5 : ByteArray) (A0_6 : Option Addr) (c0_6 : Nat) (l0_6 : List (S167)) (a0_7 : Int) (a0_8 : Int) (A0_9 : Option Addr) (c0_9 : Nat) (l0_9 : List (S169)) (a0_10 : Bool) (r : Bool) (w : World) (hr0_1 : Kd.C k192 w A0_1 l0_1.length l0_1) (hc0_1 : l0_1.length ≤ c0_1) (hr0_3 : Kd.C k192 w A0_3 l0_3.length l0_3) (hc0_3 : l0_3.length ≤ c0_3) (hr0_6 : Kd.C k167 w A0_6 l0_6.length l0_6) (hc0_6 : l0_6.length ≤ c0_6) (hr0_9 : Kd.C k169 w A0_9 l0_9.length l0_9) (hc0_9 : l0_9.length ≤ c0_9) (h : laws_FnExactEndOk.f k a0_0 l0_1 a0_2 l0_3 a0_4 a0_5 l0_6 a0_7 a0_8 l0_9 a0_10 = some r) :
  Calls Try.prog 7 #[.agg #[.bool a0_0, .slice A0_1 l0_1.length c0_1, .int .i64 a0_2, .slice A0_3 l0_3.length c0_3, .int .i64 a0_4, .string a0_5, .slice A0_6 l0_6.length c0_6, .int .i64 a0_7, .int .i64 a0_8, .slice A0_9 l0_9.length c0_9, .bool a0_10]] w fun e w' => e = .returned (.bool r) ∧ Below w.heap.size w w' := by
 have hu64 := Try.underlying64
 have hu42 := Try.underlying42
 have HR0_1 := Aside0.mk hr0_1
 have HC0_1 := Aside0.mk hc0_1
 clear hr0_1 hc0_1
 have HR0_3 := Aside0.mk hr0_3
 have HC0_3 := Aside0.mk hc0_3
 clear hr0_3 hc0_3
 have HR0_6 := Aside0.mk hr0_6
 have HC0_6 := Aside0.mk hc0_6
 clear hr0_6 hc0_6
 have HR0_9 := Aside0.mk hr0_9
 have HC0_9 := Aside0.mk hc0_9
 clear hr0_9 hc0_9
 have HB := Aside0.mk (Below.refl w.heap.size w)
 have H : ((laws_szEnd.f k a0_0 l0_1 a0_2 l0_3 a0_4 a0_5 l0_6 a0_7 a0_8 l0_9 a0_10 1048576).bind fun t327 => (if t327 < 0 then (some true) else ((laws_toEnd.f k a0_0 l0_1 a0_2 l0_3 a0_4 a0_5 l0_6 a0_7 a0_8 l0_9 a0_10).bind fun bt328 => ((spec_EndOk.f k bt328.1 bt328.2.1 bt328.2.2.1 bt328.2.2.2.1 bt328.2.2.2.2.1 bt328.2.2.2.2.2.1 bt328.2.2.2.2.2.2.1 bt328.2.2.2.2.2.2.2.1 bt328.2.2.2.2.2.2.2.2.1 bt328.2.2.2.2.2.2.2.2.2.1 bt328.2.2.2.2.2.2.2.2.2.2).bind fun t347 => ((laws_toEnd.f k a0_0 l0_1 a0_2 l0_3 a0_4 a0_5 l0_6 a0_7 a0_8 l0_9 a0_10).bind fun bt348 => ((impl_EndOk.f k bt348.1 bt348.2.1 bt348.2.2.1 bt348.2.2.2.1 bt348.2.2.2.2.1 bt348.2.2.2.2.2.1 bt348.2.2.2.2.2.2.1 bt348.2.2.2.2.2.2.2.1 bt348.2.2.2.2.2.2.2.2.1 bt348.2.2.2.2.2.2.2.2.2.1 bt348.2.2.2.2.2.2.2.2.2.2).bind fun t368 => (if (t368 != t347) = true then (some false) else ((laws_toEnd.f k a0_0 l0_1 a0_2 l0_3 a0_4 a0_5 l0_6 a0_7 a0_8 l0_9 a0_10).bind fun bt369 => ((laws_eqEnd.f k bt348.1 bt348.2.1 bt348.2.2.1 bt348.2.2.2.1 bt348.2.2.2.2.1 bt348.2.2.2.2.2.1 bt348.2.2.2.2.2.2.1 bt348.2.2.2.2.2.2.2.1 bt348.2.2.2.2.2.2.2.2.1 bt348.2.2.2.2.2.2.2.2.2.1 bt348.2.2.2.2.2.2.2.2.2.2 bt369.1 bt369.2.1 bt369.2.2.1 bt369.2.2.2.1 bt369.2.2.2.2.1 bt369.2.2.2.2.2.1 bt369.2.2.2.2.2.2.1 bt369.2.2.2.2.2.2.2.1 bt369.2.2.2.2.2.2.2.2.1 bt369.2.2.2.2.2.2.2.2.2.1 bt369.2.2.2.2.2.2.2.2.2.2).bind fun t388 => (if t388 = true then (some true) else (some false))))))))))) = some r := h
 clear h
 obtain ⟨t327, A2, H⟩ := ob H
 (try dsimp only at H)
 have HC3 := Aside0.mk H
 clear H
 go_enter Try.func7, Try.ntmps7
 go_upto_if 11 with (first | ((with_reducible refine gd 1 rfl ?_); refine bx (N := 1) (cs := #[.bool a0_0, .slice A0_1 l0_1.length c0_1, .int .i64 a0_2, .slice A0_3 l0_3.length c0_3, .int .i64 a0_4, .string a0_5, .slice A0_6 l0_6.length c0_6, .int .i64 a0_7, .int .i64 a0_8, .slice A0_9 l0_9.length c0_9, .bool a0_10]) (t := 64) ?_; intro gb326 hg w4 hbox hb; have BK326 := Aside0.mk (hbox); have GW326 := gw HB hg; have GE326 := GW326; replace HB := Aside0.mk (below_step (zb HB) hb); clear hb hbox hg; obtain ⟨hcz5_0, hcz5_1, hcz5_2, hcz5_3, hcz5_4, hcz5_5, hcz5_6, hcz5_7, hcz5_8, hcz5_9, hcz5_10, hfz5_0, hfz5_1, hfz5_2, hfz5_3, hfz5_4, hfz5_5, hfz5_6, hfz5_7, hfz5_8, hfz5_9, hfz5_10⟩ := c11 BK326) | ((with_reducible refine gq 35 rfl ?_); refine gl (some 9) Try.func35 #[.agg #[.bool a0_0, .slice A0_1 l0_1.length c0_1, .int .i64 a0_2, .slice A0_3 l0_3.length c0_3, .int .i64 a0_4, .string a0_5, .slice A0_6 l0_6.length c0_6, .int .i64 a0_7, .int .i64 a0_8, .slice A0_9 l0_9.length c0_9, .bool a0_10], .int .i64 1048576] ?_; (with_reducible refine (laws_szEnd.calls k a0_0 _ _ l0_1 a0_2 _ _ l0_3 a0_4 a0_5 _ _ l0_6 a0_7 a0_8 _ _ l0_9 a0_10 1048576 t327 _ ?side1 ?side2 ?side3 ?side4 ?side5 ?side6 ?side7 ?side8 A2.out).mono ?_); (case side1 => exact zc (Kd.C_below HR0_1.out HB.out)); (case side2 => exact HC0_1.out); (case side3 => exact zc (Kd.C_below HR0_3.out HB.out)); (case side4 => exact HC0_3.out); (case side5 => exact zc (Kd.C_below HR0_6.out HB.out)); (case side6 => exact HC0_6.out); (case side7 => exact zc (Kd.C_below HR0_9.out HB.out)); (case side8 => exact HC0_9.out); rintro e w6 ⟨rfl, hb⟩; refine ⟨_, rfl, ?_⟩; replace BK326 := kb BK326 hb; replace HB := Aside0.mk (below_step (zb HB) hb); (try clear hb)))
 (try simp only [Act.put, s1, s2, s3])
 have H := HC3.out
 clear HC3
 replace H := sp H
 rcases H with ⟨c7, H⟩ | ⟨c7, H⟩
 ·skip
  have c7b0 := decide_eq_true c7
  clear c7
  (first | rw [c7b0] | rw [c7b1] | rw [c7b2] | (simp only [i64_w, i32_w]; rw [c7b0]) | skip)
  obtain rfl := Option.some.inj H
  go_wp2
  go_ret
  exact ⟨ze, zb HB⟩
 ·skip
  have c7b0 := decide_eq_false c7
  clear c7
  (first | rw [c7b0] | rw [c7b1] | rw [c7b2] | (simp only [i64_w, i32_w]; rw [c7b0]) | skip)
  obtain ⟨⟨t328, t329, t332, t333, t336, t337, t338, t341, t342, t343, t346⟩, A8, H⟩ := ob H
  (try dsimp only at H)
  obtain ⟨t347, A9, H⟩ := ob H
  (try dsimp only at H)
  obtain ⟨⟨t348, t349, t352, t353, t356, t357, t358, t361, t362, t363, t366⟩, A10, H⟩ := ob H
  (try dsimp only at H)
  obtain ⟨t368, A11, H⟩ := ob H
  (try dsimp only at H)
  have HC12 := Aside0.mk H
  clear H
  obtain ⟨hcz13_0, hcz13_1, hcz13_2, hcz13_3, hcz13_4, hcz13_5, hcz13_6, hcz13_7, hcz13_8, hcz13_9, hcz13_10, hfz13_0, hfz13_1, hfz13_2, hfz13_3, hfz13_4, hfz13_5, hfz13_6, hfz13_7, hfz13_8, hfz13_9, hfz13_10⟩ := c11 BK326
  go_upto_if 21 with (first | ((with_reducible refine gq 37 rfl ?_); refine gl (some 13) Try.func37 #[.agg #[.bool a0_0, .slice A0_1 l0_1.length c0_1, .int .i64 a0_2, .slice A0_3 l0_3.length c0_3, .int .i64 a0_4, .string a0_5, .slice A0_6 l0_6.length c0_6, .int .i64 a0_7, .int .i64 a0_8, .slice A0_9 l0_9.length c0_9, .bool a0_10]] ?_; (with_reducible refine (laws_toEnd.calls k a0_0 _ _ l0_1 a0_2 _ _ l0_3 a0_4 a0_5 _ _ l0_6 a0_7 a0_8 _ _ l0_9 a0_10 t328 t329 t332 t333 t336 t337 t338 t341 t342 t343 t346 _ ?side1 ?side2 ?side3 ?side4 ?side5 ?side6 ?side7 ?side8 A8.out).mono ?_); (case side1 => exact zc (Kd.C_below HR0_1.out HB.out)); (case side2 => exact HC0_1.out); (case side3 => exact zc (Kd.C_below HR0_3.out HB.out)); (case side4 => exact HC0_3.out); (case side5 => exact zc (Kd.C_below HR0_6.out HB.out)); (case side6 => exact HC0_6.out); (case side7 => exact zc (Kd.C_below HR0_9.out HB.out)); (case side8 => exact HC0_9.out); rintro e w14 ⟨v330, v334, v339, v344, rfl, ho0, ho1, ho2, ho3, hb⟩; refine ⟨_, rfl, ?_⟩; have HO331 := Aside0.mk (Kd.R_lower ho0 (below_size (zb HB))); have HO335 := Aside0.mk (Kd.R_lower ho1 (below_size (zb HB))); have HO340 := Aside0.mk (Kd.S_lower ho2 (below_size (zb HB))); have HO345 := Aside0.mk (Kd.R_lower ho3 (below_size (zb HB))); replace BK326 := kb BK326 hb; replace HB := Aside0.mk (below_step (zb HB) hb); (try clear hb); (try clear ho0); (try clear ho1); (try clear ho2); (try clear ho3); obtain ⟨Ao15, co15, eo15⟩ := Kd.R_slice HO331.out; subst eo15; obtain ⟨Ao16, co16, eo16⟩ := Kd.R_slice HO335.out; subst eo16; obtain ⟨Ao17, co17, eo17⟩ := Kd.S_slice HO340.out; subst eo17; obtain ⟨Ao18, co18, eo18⟩ := Kd.R_slice HO345.out; subst eo18) | ((with_reducible refine gq 36 rfl ?_); refine gl (some 14) Try.func36 #[.agg #[.bool t328, .slice Ao15 t329.length co15, .int .i64 t332, .slice Ao16 t333.length co16, .int .i64 t336, .string t337, .slice Ao17 t338.length co17, .int .i64 t341, .int .i64 t342, .slice Ao18 t343.length co18, .bool t346]] ?_; (with_reducible refine (spec_EndOk.calls k t328 _ _ t329 t332 _ _ t333 t336 t337 _ _ t338 t341 t342 _ _ t343 t346 t347 _ ?side1 ?side2 ?side3 ?side4 ?side5 ?side6 ?side7 ?side8 A9.out).mono ?_); (case side1 => exact zc (Kd.R_reads' HO331.out).2.2); (case side2 => exact (Kd.R_reads' HO331.out).2.1); (case side3 => exact zc (Kd.R_reads' HO335.out).2.2); (case side4 => exact (Kd.R_reads' HO335.out).2.1); (case side5 => exact zc (Kd.S_reads' HO340.out).2.2); (case side6 => exact (Kd.S_reads' HO340.out).2.1); (case side7 => exact zc (Kd.R_reads' HO345.out).2.2); (case side8 => exact (Kd.R_reads' HO345.out).2.1); rintro e w19 ⟨rfl, hb⟩; refine ⟨_, rfl, ?_⟩; replace HO331 := Aside0.mk (Kd.R_below (zr HO331) hb); replace HO335 := Aside0.mk (Kd.R_below (zr HO335) hb); replace HO340 := Aside0.mk (Kd.S_below (by (with_reducible repeat (first | apply Kd.S_alloc | apply Kd.S_drewN | apply Kd.S_drew)); exact HO340.out) hb); replace HO345 := Aside0.mk (Kd.R_below (zr HO345) hb); replace BK326 := kb BK326 hb; replace HB := Aside0.mk (below_step (zb HB) hb); (try clear hb); obtain ⟨hcz20_0, hcz20_1, hcz20_2, hcz20_3, hcz20_4, hcz20_5, hcz20_6, hcz20_7, hcz20_8, hcz20_9, hcz20_10, hfz20_0, hfz20_1, hfz20_2, hfz20_3, hfz20_4, hfz20_5, hfz20_6, hfz20_7, hfz20_8, hfz20_9, hfz20_10⟩ := c11 BK326) | ((with_reducible refine gq 37 rfl ?_); refine gl (some 16) Try.func37 #[.agg #[.bool a0_0, .slice A0_1 l0_1.length c0_1, .int .i64 a0_2, .slice A0_3 l0_3.length c0_3, .int .i64 a0_4, .string a0_5, .slice A0_6 l0_6.length c0_6, .int .i64 a0_7, .int .i64 a0_8, .slice A0_9 l0_9.length c0_9, .bool a0_10]] ?_; (with_reducible refine (laws_toEnd.calls k a0_0 _ _ l0_1 a0_2 _ _ l0_3 a0_4 a0_5 _ _ l0_6 a0_7 a0_8 _ _ l0_9 a0_10 t348 t349 t352 t353 t356 t357 t358 t361 t362 t363 t366 _ ?side1 ?side2 ?side3 ?side4 ?side5 ?side6 ?side7 ?side8 A10.out).mono ?_); (case side1 => exact zc (Kd.C_below HR0_1.out HB.out)); (case side2 => exact HC0_1.out); (case side3 => exact zc (Kd.C_below HR0_3.out HB.out)); (case side4 => exact HC0_3.out); (case side5 => exact zc (Kd.C_below HR0_6.out HB.out)); (case side6 => exact HC0_6.out); (case side7 => exact zc (Kd.C_below HR0_9.out HB.out)); (case side8 => exact HC0_9.out); rintro e w21 ⟨v350, v354, v359, v364, rfl, ho0, ho1, ho2, ho3, hb⟩; refine ⟨_, rfl, ?_⟩; have HO351 := Aside0.mk (Kd.R_lower (Kd.R_new' (Kd.R_new' ho0 (Kd.R_lt (zr HO331))) (Kd.R_lt (zr HO335))) (below_size (zb HB))); have HO355 := Aside0.mk (Kd.R_lower (Kd.R_new' (Kd.R_new' ho1 (Kd.R_lt (zr HO331))) (Kd.R_lt (zr HO335))) (below_size (zb HB))); have HO360 := Aside0.mk (Kd.S_lower (Kd.S_new' (Kd.S_new' (Kd.S_new' ho2 (Kd.R_lt (zr HO331))) (Kd.R_lt (zr HO335))) (Kd.S_lt (by (with_reducible repeat (first | apply Kd.S_alloc | apply Kd.S_drewN | apply Kd.S_drew)); exact HO340.out))) (below_size (zb HB))); replace HO331 := Aside0.mk (Kd.R_mono (Kd.R_told (Kd.R_told (Kd.R_old (zr HO331) hb) (Kd.R_base ho0)) (Kd.R_base ho1)) (fun _ h_ => h_.1)); replace HO335 := Aside0.mk (Kd.R_mono (Kd.R_told (Kd.R_told (Kd.R_old (zr HO335) hb) (Kd.R_base ho0)) (Kd.R_base ho1)) (fun _ h_ => h_.1)); replace HO340 := Aside0.mk (Kd.S_mono (Kd.S_told (Kd.S_told (Kd.S_told (Kd.S_old (by (with_reducible repeat (first | apply Kd.S_alloc | apply Kd.S_drewN | apply Kd.S_drew)); exact HO340.out) hb) (Kd.R_base ho0)) (Kd.R_base ho1)) (Kd.S_base ho2)) (fun _ h_ => h_.1)); have HO365 := Aside0.mk (Kd.R_lower (Kd.R_new' ho3 (Kd.R_lt (zr HO345))) (below_size (zb HB))); replace HO345 := Aside0.mk (Kd.R_elder' (zr HO345) (Kd.R_base ho3) hb); replace BK326 := kb BK326 hb; replace HB := Aside0.mk (below_step (zb HB) hb); (try clear hb); (try clear ho0); (try clear ho1); (try clear ho2); (try clear ho3)) | ((with_reducible refine gd 5 rfl ?_); refine bx (N := 5) (cs := #[.bool false, .slice none 0 0, .int .i64 0, .slice none 0 0, .int .i64 0, .string (⟨#[]⟩ : ByteArray), .slice none 0 0, .int .i64 0, .int .i64 0, .slice none 0 0, .bool false]) (t := 42) ?_; intro gb367 hg w22 hbox hb; replace HO331 := Aside0.mk (Kd.R_below (zr HO331) hb); replace HO335 := Aside0.mk (Kd.R_below (zr HO335) hb); replace HO340 := Aside0.mk (Kd.S_below (by (with_reducible repeat (first | apply Kd.S_alloc | apply Kd.S_drewN | apply Kd.S_drew)); exact HO340.out) hb); replace HO345 := Aside0.mk (Kd.R_below (zr HO345) hb); replace HO351 := Aside0.mk (Kd.R_below (zr HO351) hb); replace HO355 := Aside0.mk (Kd.R_below (zr HO355) hb); replace HO360 := Aside0.mk (Kd.S_below (by (with_reducible repeat (first | apply Kd.S_alloc | apply Kd.S_drewN | apply Kd.S_drew)); exact HO360.out) hb); replace HO365 := Aside0.mk (Kd.R_below (zr HO365) hb); have BK367 := Aside0.mk (hbox); have GW367 := gw HB hg; have GE367 := GW367; replace HB := Aside0.mk (below_step (zb HB) hb); obtain ⟨NB326_367, NB367_326⟩ := nb BK326 hg; replace BK326 := kb BK326 hb; clear hb hbox hg; have hnb23 := NB367_326.out; have hnc23 := NB326_367.out; obtain ⟨hcz24_0, hcz24_1, hcz24_2, hcz24_3, hcz24_4, hcz24_5, hcz24_6, hcz24_7, hcz24_8, hcz24_9, hcz24_10, hfz24_0, hfz24_1, hfz24_2, hfz24_3, hfz24_4, hfz24_5, hfz24_6, hfz24_7, hfz24_8, hfz24_9, hfz24_10⟩ := c11 BK367; obtain ⟨Ao25, co25, eo25⟩ := Kd.R_slice HO351.out; subst eo25; obtain ⟨Ao26, co26, eo26⟩ := Kd.R_slice HO355.out; subst eo26; obtain ⟨Ao27, co27, eo27⟩ := Kd.S_slice HO360.out; subst eo27; obtain ⟨Ao28, co28, eo28⟩ := Kd.R_slice HO365.out; subst eo28) | ((with_reducible refine gq 33 rfl ?_); refine gl (some 18) Try.func33 #[.agg #[.bool t348, .slice Ao25 t349.length co25, .int .i64 t352, .slice Ao26 t353.length co26, .int .i64 t356, .string t357, .slice Ao27 t358.length co27, .int .i64 t361, .int .i64 t362, .slice Ao28 t363.length co28, .bool t366]] ?_; (with_reducible refine (impl_EndOk.calls k t348 _ _ t349 t352 _ _ t353 t356 t357 _ _ t358 t361 t362 _ _ t363 t366 t368 _ ?side1 ?side2 ?side3 ?side4 ?side5 ?side6 ?side7 ?side8 A11.out).mono ?_); (case side1 => refine (Kd.R_reads' (e := 88) (base := w.heap.size) (ok := fun k_ => ((some k_ ≠ (.slice Ao26 t353.length co26 : Value).ownBlock ∧ some k_ ≠ (.slice Ao15 t329.length co15 : Value).ownBlock) ∧ some k_ ≠ (.slice Ao16 t333.length co16 : Value).ownBlock)) (n := t349.length) (c := co25) ?_).2.2; exact (zq ((Kd.R_mono (Kd.R_far (p := ⟨gb367, 10, none⟩) (Kd.R_far (p := ⟨gb367, 9, none⟩) (Kd.R_far (p := ⟨gb367, 8, none⟩) (Kd.R_far (p := ⟨gb367, 7, none⟩) (Kd.R_far (p := ⟨gb367, 6, none⟩) (Kd.R_far (p := ⟨gb367, 5, none⟩) (Kd.R_far (p := ⟨gb367, 4, none⟩) (Kd.R_far (p := ⟨gb367, 3, none⟩) (Kd.R_far (p := ⟨gb367, 2, none⟩) (Kd.R_far (p := ⟨gb367, 1, none⟩) (Kd.R_far (p := ⟨gb367, 0, none⟩) (Kd.R_types HO351.out BK367.out (by decide)) (fun _ hk => hk.2) (.bool t348)) (fun _ hk => hk.2) (.slice Ao25 t349.length co25)) (fun _ hk => hk.2) (.int .i64 t352)) (fun _ hk => hk.2) (.slice Ao26 t353.length co26)) (fun _ hk => hk.2) (.int .i64 t356)) (fun _ hk => hk.2) (.string t357)) (fun _ hk => hk.2) (.slice Ao27 t358.length co27)) (fun _ hk => hk.2) (.int .i64 t361)) (fun _ hk => hk.2) (.int .i64 t362)) (fun _ hk => hk.2) (.slice Ao28 t363.length co28)) (fun _ hk => hk.2) (.bool t366)) (fun _ h_ => h_.1))))); (case side2 => exact (Kd.R_reads' HO351.out).2.1); (case side3 => refine (Kd.R_reads' (e := 88) (base := w.heap.size) (ok := fun k_ => ((some k_ ≠ (.slice Ao25 t349.length co25 : Value).ownBlock ∧ some k_ ≠ (.slice Ao15 t329.length co15 : Value).ownBlock) ∧ some k_ ≠ (.slice Ao16 t333.length co16 : Value).ownBlock)) (n := t353.length) (c := co26) ?_).2.2; exact (zq ((Kd.R_mono (Kd.R_far (p := ⟨gb367, 10, none⟩) (Kd.R_far (p := ⟨gb367, 9, none⟩) (Kd.R_far (p := ⟨gb367, 8, none⟩) (Kd.R_far (p := ⟨gb367, 7, none⟩) (Kd.R_far (p := ⟨gb367, 6, none⟩) (Kd.R_far (p := ⟨gb367, 5, none⟩) (Kd.R_far (p := ⟨gb367, 4, none⟩) (Kd.R_far (p := ⟨gb367, 3, none⟩) (Kd.R_far (p := ⟨gb367, 2, none⟩) (Kd.R_far (p := ⟨gb367, 1, none⟩) (Kd.R_far (p := ⟨gb367, 0, none⟩) (Kd.R_types HO355.out BK367.out (by decide)) (fun _ hk => hk.2) (.bool t348)) (fun _ hk => hk.2) (.slice Ao25 t349.length co25)) (fun _ hk => hk.2) (.int .i64 t352)) (fun _ hk => hk.2) (.slice Ao26 t353.length co26)) (fun _ hk => hk.2) (.int .i64 t356)) (fun _ hk => hk.2) (.string t357)) (fun _ hk => hk.2) (.slice Ao27 t358.length co27)) (fun _ hk => hk.2) (.int .i64 t361)) (fun _ hk => hk.2) (.int .i64 t362)) (fun _ hk => hk.2) (.slice Ao28 t363.length co28)) (fun _ hk => hk.2) (.bool t366)) (fun _ h_ => h_.1))))); (case side4 => exact (Kd.R_reads' HO355.out).2.1); (case side5 => refine (Kd.S_reads' (e := 104) (base := w.heap.size) (ok := fun k_ => ((((some k_ ≠ (.slice Ao25 t349.length co25 : Value).ownBlock ∧ some k_ ≠ (.slice Ao26 t353.length co26 : Value).ownBlock) ∧ some k_ ≠ (.slice Ao15 t329.length co15 : Value).ownBlock) ∧ some k_ ≠ (.slice Ao16 t333.length co16 : Value).ownBlock) ∧ some k_ ≠ (.slice Ao17 t338.length co17 : Value).ownBlock)) (n := t358.length) (c := co27) ?_).2.2; exact (by (with_reducible repeat (first | apply Kd.S_alloc | apply Kd.S_drewN | apply Kd.S_drew)); exact (Kd.S_mono (Kd.S_far (p := ⟨gb367, 10, none⟩) (Kd.S_far (p := ⟨gb367, 9, none⟩) (Kd.S_far (p := ⟨gb367, 8, none⟩) (Kd.S_far (p := ⟨gb367, 7, none⟩) (Kd.S_far (p := ⟨gb367, 6, none⟩) (Kd.S_far (p := ⟨gb367, 5, none⟩) (Kd.S_far (p := ⟨gb367, 4, none⟩) (Kd.S_far (p := ⟨gb367, 3, none⟩) (Kd.S_far (p := ⟨gb367, 2, none⟩) (Kd.S_far (p := ⟨gb367, 1, none⟩) (Kd.S_far (p := ⟨gb367, 0, none⟩) (Kd.S_types HO360.out BK367.out (by decide)) (fun _ hk => hk.2) (.bool t348)) (fun _ hk => hk.2) (.slice Ao25 t349.length co25)) (fun _ hk => hk.2) (.int .i64 t352)) (fun _ hk => hk.2) (.slice Ao26 t353.length co26)) (fun _ hk => hk.2) (.int .i64 t356)) (fun _ hk => hk.2) (.string t357)) (fun _ hk => hk.2) (.slice Ao27 t358.length co27)) (fun _ hk => hk.2) (.int .i64 t361)) (fun _ hk => hk.2) (.int .i64 t362)) (fun _ hk => hk.2) (.slice Ao28 t363.length co28)) (fun _ hk => hk.2) (.bool t366)) (fun _ h_ => h_.1)))); (case side6 => exact (Kd.S_reads' HO360.out).2.1); (case side7 => refine (Kd.R_reads' (e := 110) (base := w.heap.size) (ok := fun k_ => (True ∧ some k_ ≠ (.slice Ao18 t343.length co18 : Value).ownBlock)) (n := t363.length) (c := co28) ?_).2.2; exact (zq ((Kd.R_mono (Kd.R_far (p := ⟨gb367, 10, none⟩) (Kd.R_far (p := ⟨gb367, 9, none⟩) (Kd.R_far (p := ⟨gb367, 8, none⟩) (Kd.R_far (p := ⟨gb367, 7, none⟩) (Kd.R_far (p := ⟨gb367, 6, none⟩) (Kd.R_far (p := ⟨gb367, 5, none⟩) (Kd.R_far (p := ⟨gb367, 4, none⟩) (Kd.R_far (p := ⟨gb367, 3, none⟩) (Kd.R_far (p := ⟨gb367, 2, none⟩) (Kd.R_far (p := ⟨gb367, 1, none⟩) (Kd.R_far (p := ⟨gb367, 0, none⟩) (Kd.R_types HO365.out BK367.out (by decide)) (fun _ hk => hk.2) (.bool t348)) (fun _ hk => hk.2) (.slice Ao25 t349.length co25)) (fun _ hk => hk.2) (.int .i64 t352)) (fun _ hk => hk.2) (.slice Ao26 t353.length co26)) (fun _ hk => hk.2) (.int .i64 t356)) (fun _ hk => hk.2) (.string t357)) (fun _ hk => hk.2) (.slice Ao27 t358.length co27)) (fun _ hk => hk.2) (.int .i64 t361)) (fun _ hk => hk.2) (.int .i64 t362)) (fun _ hk => hk.2) (.slice Ao28 t363.length co28)) (fun _ hk => hk.2) (.bool t366)) (fun _ h_ => h_.1))))); (case side8 => exact (Kd.R_reads' HO365.out).2.1); rintro e w29 ⟨rfl, hb⟩; refine ⟨_, rfl, ?_⟩; replace HO331 := Aside0.mk (Kd.R_below (zq ((Kd.R_mono (Kd.R_far (p := ⟨gb367, 10, none⟩) (Kd.R_far (p := ⟨gb367, 9, none⟩) (Kd.R_far (p := ⟨gb367, 8, none⟩) (Kd.R_far (p := ⟨gb367, 7, none⟩) (Kd.R_far (p := ⟨gb367, 6, none⟩) (Kd.R_far (p := ⟨gb367, 5, none⟩) (Kd.R_far (p := ⟨gb367, 4, none⟩) (Kd.R_far (p := ⟨gb367, 3, none⟩) (Kd.R_far (p := ⟨gb367, 2, none⟩) (Kd.R_far (p := ⟨gb367, 1, none⟩) (Kd.R_far (p := ⟨gb367, 0, none⟩) (Kd.R_types HO331.out BK367.out (by decide)) (fun _ hk => hk.2) (.bool t348)) (fun _ hk => hk.2) (.slice Ao25 t349.length co25)) (fun _ hk => hk.2) (.int .i64 t352)) (fun _ hk => hk.2) (.slice Ao26 t353.length co26)) (fun _ hk => hk.2) (.int .i64 t356)) (fun _ hk => hk.2) (.string t357)) (fun _ hk => hk.2) (.slice Ao27 t358.length co27)) (fun _ hk => hk.2) (.int .i64 t361)) (fun _ hk => hk.2) (.int .i64 t362)) (fun _ hk => hk.2) (.slice Ao28 t363.length co28)) (fun _ hk => hk.2) (.bool t366)) (fun _ h_ => h_.1)))) hb); replace HO335 := Aside0.mk (Kd.R_below (zq ((Kd.R_mono (Kd.R_far (p := ⟨gb367, 10, none⟩) (Kd.R_far (p := ⟨gb367, 9, none⟩) (Kd.R_far (p := ⟨gb367, 8, none⟩) (Kd.R_far (p := ⟨gb367, 7, none⟩) (Kd.R_far (p := ⟨gb367, 6, none⟩) (Kd.R_far (p := ⟨gb367, 5, none⟩) (Kd.R_far (p := ⟨gb367, 4, none⟩) (Kd.R_far (p := ⟨gb367, 3, none⟩) (Kd.R_far (p := ⟨gb367, 2, none⟩) (Kd.R_far (p := ⟨gb367, 1, none⟩) (Kd.R_far (p := ⟨gb367, 0, none⟩) (Kd.R_types HO335.out BK367.out (by decide)) (fun _ hk => hk.2) (.bool t348)) (fun _ hk => hk.2) (.slice Ao25 t349.length co25)) (fun _ hk => hk.2) (.int .i64 t352)) (fun _ hk => hk.2) (.slice Ao26 t353.length co26)) (fun _ hk => hk.2) (.int .i64 t356)) (fun _ hk => hk.2) (.string t357)) (fun _ hk => hk.2) (.slice Ao27 t358.length co27)) (fun _ hk => hk.2) (.int .i64 t361)) (fun _ hk => hk.2) (.int .i64 t362)) (fun _ hk => hk.2) (.slice Ao28 t363.length co28)) (fun _ hk => hk.2) (.bool t366)) (fun _ h_ => h_.1)))) hb); replace HO340 := Aside0.mk (Kd.S_below (by (with_reducible repeat (first | apply Kd.S_alloc | apply Kd.S_drewN | apply Kd.S_drew)); exact (Kd.S_mono (Kd.S_far (p := ⟨gb367, 10, none⟩) (Kd.S_far (p := ⟨gb367, 9, none⟩) (Kd.S_far (p := ⟨gb367, 8, none⟩) (Kd.S_far (p := ⟨gb367, 7, none⟩) (Kd.S_far (p := ⟨gb367, 6, none⟩) (Kd.S_far (p := ⟨gb367, 5, none⟩) (Kd.S_far (p := ⟨gb367, 4, none⟩) (Kd.S_far (p := ⟨gb367, 3, none⟩) (Kd.S_far (p := ⟨gb367, 2, none⟩) (Kd.S_far (p := ⟨gb367, 1, none⟩) (Kd.S_far (p := ⟨gb367, 0, none⟩) (Kd.S_types HO340.out BK367.out (by decide)) (fun _ hk => hk.2) (.bool t348)) (fun _ hk => hk.2) (.slice Ao25 t349.length co25)) (fun _ hk => hk.2) (.int .i64 t352)) (fun _ hk => hk.2) (.slice Ao26 t353.length co26)) (fun _ hk => hk.2) (.int .i64 t356)) (fun _ hk => hk.2) (.string t357)) (fun _ hk => hk.2) (.slice Ao27 t358.length co27)) (fun _ hk => hk.2) (.int .i64 t361)) (fun _ hk => hk.2) (.int .i64 t362)) (fun _ hk => hk.2) (.slice Ao28 t363.length co28)) (fun _ hk => hk.2) (.bool t366)) (fun _ h_ => h_.1))) hb); replace HO345 := Aside0.mk (Kd.R_below (zq ((Kd.R_mono (Kd.R_far (p := ⟨gb367, 10, none⟩) (Kd.R_far (p := ⟨gb367, 9, none⟩) (Kd.R_far (p := ⟨gb367, 8, none⟩) (Kd.R_far (p := ⟨gb367, 7, none⟩) (Kd.R_far (p := ⟨gb367, 6, none⟩) (Kd.R_far (p := ⟨gb367, 5, none⟩) (Kd.R_far (p := ⟨gb367, 4, none⟩) (Kd.R_far (p := ⟨gb367, 3, none⟩) (Kd.R_far (p := ⟨gb367, 2, none⟩) (Kd.R_far (p := ⟨gb367, 1, none⟩) (Kd.R_far (p := ⟨gb367, 0, none⟩) (Kd.R_types HO345.out BK367.out (by decide)) (fun _ hk => hk.2) (.bool t348)) (fun _ hk => hk.2) (.slice Ao25 t349.length co25)) (fun _ hk => hk.2) (.int .i64 t352)) (fun _ hk => hk.2) (.slice Ao26 t353.length co26)) (fun _ hk => hk.2) (.int .i64 t356)) (fun _ hk => hk.2) (.string t357)) (fun _ hk => hk.2) (.slice Ao27 t358.length co27)) (fun _ hk => hk.2) (.int .i64 t361)) (fun _ hk => hk.2) (.int .i64 t362)) (fun _ hk => hk.2) (.slice Ao28 t363.length co28)) (fun _ hk => hk.2) (.bool t366)) (fun _ h_ => h_.1)))) hb); replace HO351 := Aside0.mk (Kd.R_below (zq ((Kd.R_mono (Kd.R_far (p := ⟨gb367, 10, none⟩) (Kd.R_far (p := ⟨gb367, 9, none⟩) (Kd.R_far (p := ⟨gb367, 8, none⟩) (Kd.R_far (p := ⟨gb367, 7, none⟩) (Kd.R_far (p := ⟨gb367, 6, none⟩) (Kd.R_far (p := ⟨gb367, 5, none⟩) (Kd.R_far (p := ⟨gb367, 4, none⟩) (Kd.R_far (p := ⟨gb367, 3, none⟩) (Kd.R_far (p := ⟨gb367, 2, none⟩) (Kd.R_far (p := ⟨gb367, 1, none⟩) (Kd.R_far (p := ⟨gb367, 0, none⟩) (Kd.R_types HO351.out BK367.out (by decide)) (fun _ hk => hk.2) (.bool t348)) (fun _ hk => hk.2) (.slice Ao25 t349.length co25)) (fun _ hk => hk.2) (.int .i64 t352)) (fun _ hk => hk.2) (.slice Ao26 t353.length co26)) (fun _ hk => hk.2) (.int .i64 t356)) (fun _ hk => hk.2) (.string t357)) (fun _ hk => hk.2) (.slice Ao27 t358.length co27)) (fun _ hk => hk.2) (.int .i64 t361)) (fun _ hk => hk.2) (.int .i64 t362)) (fun _ hk => hk.2) (.slice Ao28 t363.length co28)) (fun _ hk => hk.2) (.bool t366)) (fun _ h_ => h_.1)))) hb); replace HO355 := Aside0.mk (Kd.R_below (zq ((Kd.R_mono (Kd.R_far (p := ⟨gb367, 10, none⟩) (Kd.R_far (p := ⟨gb367, 9, none⟩) (Kd.R_far (p := ⟨gb367, 8, none⟩) (Kd.R_far (p := ⟨gb367, 7, none⟩) (Kd.R_far (p := ⟨gb367, 6, none⟩) (Kd.R_far (p := ⟨gb367, 5, none⟩) (Kd.R_far (p := ⟨gb367, 4, none⟩) (Kd.R_far (p := ⟨gb367, 3, none⟩) (Kd.R_far (p := ⟨gb367, 2, none⟩) (Kd.R_far (p := ⟨gb367, 1, none⟩) (Kd.R_far (p := ⟨gb367, 0, none⟩) (Kd.R_types HO355.out BK367.out (by decide)) (fun _ hk => hk.2) (.bool t348)) (fun _ hk => hk.2) (.slice Ao25 t349.length co25)) (fun _ hk => hk.2) (.int .i64 t352)) (fun _ hk => hk.2) (.slice Ao26 t353.length co26)) (fun _ hk => hk.2) (.int .i64 t356)) (fun _ hk => hk.2) (.string t357)) (fun _ hk => hk.2) (.slice Ao27 t358.length co27)) (fun _ hk => hk.2) (.int .i64 t361)) (fun _ hk => hk.2) (.int .i64 t362)) (fun _ hk => hk.2) (.slice Ao28 t363.length co28)) (fun _ hk => hk.2) (.bool t366)) (fun _ h_ => h_.1)))) hb); replace HO360 := Aside0.mk (Kd.S_below (by (with_reducible repeat (first | apply Kd.S_alloc | apply Kd.S_drewN | apply Kd.S_drew)); exact (Kd.S_mono (Kd.S_far (p := ⟨gb367, 10, none⟩) (Kd.S_far (p := ⟨gb367, 9, none⟩) (Kd.S_far (p := ⟨gb367, 8, none⟩) (Kd.S_far (p := ⟨gb367, 7, none⟩) (Kd.S_far (p := ⟨gb367, 6, none⟩) (Kd.S_far (p := ⟨gb367, 5, none⟩) (Kd.S_far (p := ⟨gb367, 4, none⟩) (Kd.S_far (p := ⟨gb367, 3, none⟩) (Kd.S_far (p := ⟨gb367, 2, none⟩) (Kd.S_far (p := ⟨gb367, 1, none⟩) (Kd.S_far (p := ⟨gb367, 0, none⟩) (Kd.S_types HO360.out BK367.out (by decide)) (fun _ hk => hk.2) (.bool t348)) (fun _ hk => hk.2) (.slice Ao25 t349.length co25)) (fun _ hk => hk.2) (.int .i64 t352)) (fun _ hk => hk.2) (.slice Ao26 t353.length co26)) (fun _ hk => hk.2) (.int .i64 t356)) (fun _ hk => hk.2) (.string t357)) (fun _ hk => hk.2) (.slice Ao27 t358.length co27)) (fun _ hk => hk.2) (.int .i64 t361)) (fun _ hk => hk.2) (.int .i64 t362)) (fun _ hk => hk.2) (.slice Ao28 t363.length co28)) (fun _ hk => hk.2) (.bool t366)) (fun _ h_ => h_.1))) hb); replace HO365 := Aside0.mk (Kd.R_below (zq ((Kd.R_mono (Kd.R_far (p := ⟨gb367, 10, none⟩) (Kd.R_far (p := ⟨gb367, 9, none⟩) (Kd.R_far (p := ⟨gb367, 8, none⟩) (Kd.R_far (p := ⟨gb367, 7, none⟩) (Kd.R_far (p := ⟨gb367, 6, none⟩) (Kd.R_far (p := ⟨gb367, 5, none⟩) (Kd.R_far (p := ⟨gb367, 4, none⟩) (Kd.R_far (p := ⟨gb367, 3, none⟩) (Kd.R_far (p := ⟨gb367, 2, none⟩) (Kd.R_far (p := ⟨gb367, 1, none⟩) (Kd.R_far (p := ⟨gb367, 0, none⟩) (Kd.R_types HO365.out BK367.out (by decide)) (fun _ hk => hk.2) (.bool t348)) (fun _ hk => hk.2) (.slice Ao25 t349.length co25)) (fun _ hk => hk.2) (.int .i64 t352)) (fun _ hk => hk.2) (.slice Ao26 t353.length co26)) (fun _ hk => hk.2) (.int .i64 t356)) (fun _ hk => hk.2) (.string t357)) (fun _ hk => hk.2) (.slice Ao27 t358.length co27)) (fun _ hk => hk.2) (.int .i64 t361)) (fun _ hk => hk.2) (.int .i64 t362)) (fun _ hk => hk.2) (.slice Ao28 t363.length co28)) (fun _ hk => hk.2) (.bool t366)) (fun _ h_ => h_.1)))) hb); replace BK326 := Aside0.mk (blk_below (g := gb326) (o := .cells #[.bool a0_0, .slice A0_1 l0_1.length c0_1, .int .i64 a0_2, .slice A0_3 l0_3.length c0_3, .int .i64 a0_4, .string a0_5, .slice A0_6 l0_6.length c0_6, .int .i64 a0_7, .int .i64 a0_8, .slice A0_9 l0_9.length c0_9, .bool a0_10] 64 (0, 0)) (zp BK326) hb); replace BK367 := Aside0.mk (blk_below (g := gb367) (o := .cells #[.bool t348, .slice Ao25 t349.length co25, .int .i64 t352, .slice Ao26 t353.length co26, .int .i64 t356, .string t357, .slice Ao27 t358.length co27, .int .i64 t361, .int .i64 t362, .slice Ao28 t363.length co28, .bool t366] 42 (0, 0)) (zp BK367) hb); replace HB := Aside0.mk (below_step (zb HB) hb); (try clear hb); (try clear hk)))
  (try simp only [Act.put, s1, s2, s3])
  have H := HC12.out
  clear HC12
  replace H := sp H
  rcases H with ⟨c30, H⟩ | ⟨c30, H⟩
  ·skip
   have c30b0 : (t368 != t347) = true := c30
   (try (have c30b1 : decide (t368 = t347) = false := by simpa using c30))
   (try (have c30b2 : (t368 == t347) = false := by simpa using c30))
   (try (have c30b3 : ¬ (t368 = t347) := by simpa using c30))
   clear c30
   (first | rw [c30b0] | rw [c30b1] | rw [c30b2] | (simp only [i64_w, i32_w]; rw [c30b0]) | skip)
   obtain rfl := Option.some.inj H
   go_wp2
   go_ret
   exact ⟨ze, zb HB⟩
  ·skip
   have c30b0 : (t368 != t347) = false := by simpa using c30
   (try (have c30b1 : decide (t368 = t347) = true := by simpa using c30))
   (try (have c30b2 : (t368 == t347) = true := by simpa using c30))
   clear c30
   (first | rw [c30b0] | rw [c30b1] | rw [c30b2] | (simp only [i64_w, i32_w]; rw [c30b0]) | skip)
   obtain ⟨⟨t369, t370, t373, t374, t377, t378, t379, t382, t383, t384, t387⟩, A31, H⟩ := ob H
   (try dsimp only at H)
   obtain ⟨t388, A32, H⟩ := ob H
   (try dsimp only at H)
   have HC33 := Aside0.mk H
   clear H
   try go_wp2
   replace HO331 := Aside0.mk (Kd.R_drew HO331.out)
   replace HO335 := Aside0.mk (Kd.R_drew HO335.out)
   replace HO340 := Aside0.mk (Kd.S_drew HO340.out)
   replace HO345 := Aside0.mk (Kd.R_drew HO345.out)
   replace HO351 := Aside0.mk (Kd.R_drew HO351.out)
   replace HO355 := Aside0.mk (Kd.R_drew HO355.out)
   replace HO360 := Aside0.mk (Kd.S_drew HO360.out)
   replace HO365 := Aside0.mk (Kd.R_drew HO365.out)
   replace BK326 := Aside0.mk (blk_drew BK326.out)
   replace BK367 := Aside0.mk (blk_drew BK367.out)
   replace HB := Aside0.mk (below_drew1 HB.out)
   refine st 5 (an (b11 BK367) (b11 BK326)) (fun hHeld => ?_)
   generalize w29.drew = w34 at HO331 HO335 HO340 HO345 HO351 HO355 HO360 HO365 BK326 BK367 HB hHeld ⊢
   refine tk 0 (some 22) (bm 5 1) rfl rfl hHeld ?_
   refine tk 1 (some 23) (bm 5 3) rfl rfl hHeld ?_
   refine one_ (i := 2) (N := some 24) (bm 5 7) rfl rfl (by kernel_rfl) (by decide) (fun K hK => ?_)
   refine gs Try.func37 #[.agg #[.bool a0_0, .slice A0_1 l0_1.length c0_1, .int .i64 a0_2, .slice A0_3 l0_3.length c0_3, .int .i64 a0_4, .string a0_5, .slice A0_6 l0_6.length c0_6, .int .i64 a0_7, .int .i64 a0_8, .slice A0_9 l0_9.length c0_9, .bool a0_10]] ?_
   with_reducible refine (laws_toEnd.calls k a0_0 _ _ l0_1 a0_2 _ _ l0_3 a0_4 a0_5 _ _ l0_6 a0_7 a0_8 _ _ l0_9 a0_10 t369 t370 t373 t374 t377 t378 t379 t382 t383 t384 t387 _ ?side1 ?side2 ?side3 ?side4 ?side5 ?side6 ?side7 ?side8 A31.out).mono ?_
   (case side1 => exact zc (Kd.C_below HR0_1.out HB.out))
   (case side2 => exact HC0_1.out)
   (case side3 => exact zc (Kd.C_below HR0_3.out HB.out))
   (case side4 => exact HC0_3.out)
   (case side5 => exact zc (Kd.C_below HR0_6.out HB.out))
   (case side6 => exact HC0_6.out)
   (case side7 => exact zc (Kd.C_below HR0_9.out HB.out))
   (case side8 => exact HC0_9.out)
   rintro e w35 ⟨v371, v375, v380, v385, rfl, ho0, ho1, ho2, ho3, hb⟩
   refine ⟨_, rfl, ?_⟩
   have HO372 := Aside0.mk (Kd.R_lower (Kd.R_new' (Kd.R_new' (Kd.R_new' (Kd.R_new' ho0 (Kd.R_lt (zr HO331))) (Kd.R_lt (zr HO335))) (Kd.R_lt (zr HO351))) (Kd.R_lt (zr HO355))) (below_size (zb HB)))
   have HO376 := Aside0.mk (Kd.R_lower (Kd.R_new' (Kd.R_new' (Kd.R_new' (Kd.R_new' ho1 (Kd.R_lt (zr HO331))) (Kd.R_lt (zr HO335))) (Kd.R_lt (zr HO351))) (Kd.R_lt (zr HO355))) (below_size (zb HB)))
   have HO381 := Aside0.mk (Kd.S_lower (Kd.S_new' (Kd.S_new' (Kd.S_new' (Kd.S_new' (Kd.S_new' (Kd.S_new' ho2 (Kd.R_lt (zr HO331))) (Kd.R_lt (zr HO335))) (Kd.S_lt (by (with_reducible repeat (first | apply Kd.S_alloc | apply Kd.S_drewN | apply Kd.S_drew)); exact HO340.out))) (Kd.R_lt (zr HO351))) (Kd.R_lt (zr HO355))) (Kd.S_lt (by (with_reducible repeat (first | apply Kd.S_alloc | apply Kd.S_drewN | apply Kd.S_drew)); exact HO360.out))) (below_size (zb HB)))
   replace HO331 := Aside0.mk (Kd.R_mono (Kd.R_told (Kd.R_told (Kd.R_old (zr HO331) hb) (Kd.R_base ho0)) (Kd.R_base ho1)) (fun _ h_ => h_.1))
   replace HO335 := Aside0.mk (Kd.R_mono (Kd.R_told (Kd.R_told (Kd.R_old (zr HO335) hb) (Kd.R_base ho0)) (Kd.R_base ho1)) (fun _ h_ => h_.1))
   replace HO340 := Aside0.mk (Kd.S_mono (Kd.S_told (Kd.S_told (Kd.S_told (Kd.S_old (by (with_reducible repeat (first | apply Kd.S_alloc | apply Kd.S_drewN | apply Kd.S_drew)); exact HO340.out) hb) (Kd.R_base ho0)) (Kd.R_base ho1)) (Kd.S_base ho2)) (fun _ h_ => h_.1))
   replace HO351 := Aside0.mk (Kd.R_mono (Kd.R_told (Kd.R_told (Kd.R_old (zr HO351) hb) (Kd.R_base ho0)) (Kd.R_base ho1)) (fun _ h_ => h_.1))
   replace HO355 := Aside0.mk (Kd.R_mono (Kd.R_told (Kd.R_told (Kd.R_old (zr HO355) hb) (Kd.R_base ho0)) (Kd.R_base ho1)) (fun _ h_ => h_.1))
   replace HO360 := Aside0.mk (Kd.S_mono (Kd.S_told (Kd.S_told (Kd.S_told (Kd.S_old (by (with_reducible repeat (first | apply Kd.S_alloc | apply Kd.S_drewN | apply Kd.S_drew)); exact HO360.out) hb) (Kd.R_base ho0)) (Kd.R_base ho1)) (Kd.S_base ho2)) (fun _ h_ => h_.1))
   have HO386 := Aside0.mk (Kd.R_lower (Kd.R_new' (Kd.R_new' ho3 (Kd.R_lt (zr HO345))) (Kd.R_lt (zr HO365))) (below_size (zb HB)))
   replace HO345 := Aside0.mk (Kd.R_elder' (zr HO345) (Kd.R_base ho3) hb)
   replace HO365 := Aside0.mk (Kd.R_elder' (zr HO365) (Kd.R_base ho3) hb)
   replace BK326 := kb BK326 hb
   replace BK367 := kb BK367 hb
   replace HB := Aside0.mk (below_step (zb HB) hb)
   (try clear hb)
   (try clear ho0)
   (try clear ho1)
   (try clear ho2)
   (try clear ho3)
   obtain ⟨Ao36, co36, eo36⟩ := Kd.R_slice HO372.out
   (first | subst eo36 | (injection eo36 with f1_ f2_ f3_; have f4_ := f1_.symm; have f5_ := f3_.symm; clear f1_ f2_ f3_; subst f4_; subst f5_))
   obtain ⟨Ao37, co37, eo37⟩ := Kd.R_slice HO376.out
   (first | subst eo37 | (injection eo37 with f1_ f2_ f3_; have f4_ := f1_.symm; have f5_ := f3_.symm; clear f1_ f2_ f3_; subst f4_; subst f5_))
   obtain ⟨Ao38, co38, eo38⟩ := Kd.S_slice HO381.out
   (first | subst eo38 | (injection eo38 with f1_ f2_ f3_; have f4_ := f1_.symm; have f5_ := f3_.symm; clear f1_ f2_ f3_; subst f4_; subst f5_))
   obtain ⟨Ao39, co39, eo39⟩ := Kd.R_slice HO386.out
   (first | subst eo39 | (injection eo39 with f1_ f2_ f3_; have f4_ := f1_.symm; have f5_ := f3_.symm; clear f1_ f2_ f3_; subst f4_; subst f5_))
   refine hK.out _ _ (an (b11 BK367) (b11 BK326)) (fun hHeld => ?_)
   clear hK K
   refine nm ?_
   refine one_ (i := 3) (N := some 25) (bm 5 15) rfl rfl (by kernel_rfl) (by decide) (fun K hK => ?_)
   refine gs Try.func22 #[.agg #[.bool t348, .slice Ao25 t349.length co25, .int .i64 t352, .slice Ao26 t353.length co26, .int .i64 t356, .string t357, .slice Ao27 t358.length co27, .int .i64 t361, .int .i64 t362, .slice Ao28 t363.length co28, .bool t366], .agg #[.bool t369, .slice Ao36 t370.length co36, .int .i64 t373, .slice Ao37 t374.length co37, .int .i64 t377, .string t378, .slice Ao38 t379.length co38, .int .i64 t382, .int .i64 t383, .slice Ao39 t384.length co39, .bool t387]] ?_
   with_reducible refine (laws_eqEnd.calls k t348 _ _ t349 t352 _ _ t353 t356 t357 _ _ t358 t361 t362 _ _ t363 t366 t369 _ _ t370 t373 _ _ t374 t377 t378 _ _ t379 t382 t383 _ _ t384 t387 t388 _ ?side1 ?side2 ?side3 ?side4 ?side5 ?side6 ?side7 ?side8 ?side9 ?side10 ?side11 ?side12 ?side13 ?side14 ?side15 ?side16 A32.out).mono ?_
   (case side1 => exact zc (Kd.R_reads' HO351.out).2.2)
   (case side2 => exact (Kd.R_reads' HO351.out).2.1)
   (case side3 => exact zc (Kd.R_reads' HO355.out).2.2)
   (case side4 => exact (Kd.R_reads' HO355.out).2.1)
   (case side5 => exact zc (Kd.S_reads' HO360.out).2.2)
   (case side6 => exact (Kd.S_reads' HO360.out).2.1)
   (case side7 => exact zc (Kd.R_reads' HO365.out).2.2)
   (case side8 => exact (Kd.R_reads' HO365.out).2.1)
   (case side9 => exact zc (Kd.R_reads' HO372.out).2.2)
   (case side10 => exact (Kd.R_reads' HO372.out).2.1)
   (case side11 => exact zc (Kd.R_reads' HO376.out).2.2)
   (case side12 => exact (Kd.R_reads' HO376.out).2.1)
   (case side13 => exact zc (Kd.S_reads' HO381.out).2.2)
   (case side14 => exact (Kd.S_reads' HO381.out).2.1)
   (case side15 => exact zc (Kd.R_reads' HO386.out).2.2)
   (case side16 => exact (Kd.R_reads' HO386.out).2.1)
   rintro e w40 ⟨rfl, hb⟩
   refine ⟨_, rfl, ?_⟩
   replace HO331 := Aside0.mk (Kd.R_below (zr HO331) hb)
   replace HO335 := Aside0.mk (Kd.R_below (zr HO335) hb)
   replace HO340 := Aside0.mk (Kd.S_below (by (with_reducible repeat (first | apply Kd.S_alloc | apply Kd.S_drewN | apply Kd.S_drew)); exact HO340.out) hb)
   replace HO345 := Aside0.mk (Kd.R_below (zr HO345) hb)
   replace HO351 := Aside0.mk (Kd.R_below (zr HO351) hb)
   replace HO355 := Aside0.mk (Kd.R_below (zr HO355) hb)
   replace HO360 := Aside0.mk (Kd.S_below (by (with_reducible repeat (first | apply Kd.S_alloc | apply Kd.S_drewN | apply Kd.S_drew)); exact HO360.out) hb)
   replace HO365 := Aside0.mk (Kd.R_below (zr HO365) hb)
   replace HO372 := Aside0.mk (Kd.R_below (zr HO372) hb)
   replace HO376 := Aside0.mk (Kd.R_below (zr HO376) hb)
   replace HO381 := Aside0.mk (Kd.S_below (by (with_reducible repeat (first | apply Kd.S_alloc | apply Kd.S_drewN | apply Kd.S_drew)); exact HO381.out) hb)
   replace HO386 := Aside0.mk (Kd.R_below (zr HO386) hb)
   replace BK326 := kb BK326 hb
   replace BK367 := kb BK367 hb
   replace HB := Aside0.mk (below_step (zb HB) hb)
   (try clear hb)
   refine hK.out _ _ (an (b11 BK367) (b11 BK326)) (fun hHeld => ?_)
   clear hK K
   refine nm ?_
   refine pu 4 (some 26) (bm 5 31) rfl rfl ?_
   refine done_ (by kernel_rfl) ?_
   go_upto_if 26 with (fail)
   have H := HC33.out
   clear HC33
   by_cases c41 : t388 = true
   ·subst c41
    rw [if_pos rfl] at H
    obtain rfl := Option.some.inj H
    go_wp2
    go_ret
    exact ⟨ze, zb HB⟩
   ·replace c41 := Bool.eq_false_iff.mpr c41
    subst c41
    rw [if_neg (show ¬ (false = true) by decide)] at H
    obtain rfl := Option.some.inj H
    go_wp2
    go_ret
    exact ⟨ze, zb HB⟩

end Go.Proofs.Ytlpibelofcabhaa.PFnExactEndOk
