-- WRITTEN BY a turned print (wip/tools of the prover's repo)
import Derived.Test.YtlpibelofcabhaaPFnExactEndLeavex0
namespace Go.Proofs.Ytlpibelofcabhaa.PFnExactEndLeave
open Go.RowKit Go.Proofs.YtlpibelofcabhaaW.PrintWords Go.Proofs.YtlpibelofcabhaaW.PrintLast Go.Proofs.YtlpibelofcabhaaW.PrintMore Go.Proofs.Ytlpibelofcabhaa.Lm
attribute [local go_sem] max2_int min2_int max_two min_two max_three min_three max_four min_four   -- for this text's walks alone
set_option linter.unusedVariables false
set_option linter.unusedSimpArgs false

/-! ### spec_l21At: function 137 -/
-- thin
def spec_l21At.l0 : Nat → Int → Int → Bool → List (S88) → Int → List (S88) → Int → ByteArray → List (S104) → Int → Int → List (S110) → Bool → Option (Int)
 | 0, _, _, _, _, _, _, _, _, _, _, _, _, _ => none
 | k + 1, x1, x5, x328000, x328001, x328002, x328003, x328004, x328005, x328006, x328007, x328008, x328009, x328010 => if x5 < (x328006.length : Int) then (if 0 ≤ x5 then (if ((rd_T104 x328006 x5).f0) = x1 then (some x5) else (spec_l21At.l0 k x1 (wrap64 (x5 + 1)) x328000 x328001 x328002 x328003 x328004 x328005 x328006 x328007 x328008 x328009 x328010)) else (none)) else (some (-1))
def spec_l21At.f (k : Nat) (a0_0 : Bool) (l0_1 : List (S88)) (a0_2 : Int) (l0_3 : List (S88)) (a0_4 : Int) (a0_5 : ByteArray) (l0_6 : List (S104)) (a0_7 : Int) (a0_8 : Int) (l0_9 : List (S110)) (a0_10 : Bool) (a1 : Int) : Option (Int) := spec_l21At.l0 k a1 0 a0_0 l0_1 a0_2 l0_3 a0_4 a0_5 l0_6 a0_7 a0_8 l0_9 a0_10
theorem spec_l21At.mono_l : ∀ k, (∀ y0 y1 y2 y3 y4 y5 y6 y7 y8 y9 y10 y11 y12, LeO (spec_l21At.l0 k y0 y1 y2 y3 y4 y5 y6 y7 y8 y9 y10 y11 y12) (spec_l21At.l0 (k + 1) y0 y1 y2 y3 y4 y5 y6 y7 y8 y9 y10 y11 y12))
 | 0 => fun _ _ _ _ _ _ _ _ _ _ _ _ _ r h => by simp [spec_l21At.l0] at h
 | k + 1 => by
  have ih0 := spec_l21At.mono_l k
  ·intro y0 y1 y2 y3 y4 y5 y6 y7 y8 y9 y10 y11 y12
   unfold spec_l21At.l0
   exact zm
theorem spec_l21At.mono : ∀ a0 a1 a2 a3 a4 a5 a6 a7 a8 a9 a10 a11 k, LeO (spec_l21At.f k a0 a1 a2 a3 a4 a5 a6 a7 a8 a9 a10 a11) (spec_l21At.f (k + 1) a0 a1 a2 a3 a4 a5 a6 a7 a8 a9 a10 a11) := by
 intro a0 a1 a2 a3 a4 a5 a6 a7 a8 a9 a10 a11 k
 have ih0 := spec_l21At.mono_l k
 unfold spec_l21At.f
 exact zm
set_option maxHeartbeats 8000000 in
set_option maxRecDepth 100000 in
theorem spec_l21At.calls (k : Nat) (a0_0 : Bool) (A0_1 : Option Addr) (c0_1 : Nat) (l0_1 : List (S88)) (a0_2 : Int) (A0_3 : Option Addr) (c0_3 : Nat) (l0_3 : List (S88)) (a0_4 : Int) (a0_5 : ByteArray) (A0_6 : Option Addr) (c0_6 : Nat) (l0_6 : List (S104)) (a0_7 : Int) (a0_8 : Int) (A0_9 : Option Addr) (c0_9 : Nat) (l0_9 : List (S110)) (a0_10 : Bool) (a1 : Int) (r : Int) (w : World) (hr0_1 : Kd.C k88 w A0_1 l0_1.length l0_1) (hc0_1 : l0_1.length ≤ c0_1) (hr0_3 : Kd.C k88 w A0_3 l0_3.length l0_3) (hc0_3 : l0_3.length ≤ c0_3) (hr0_6 : Kd.C k104 w A0_6 l0_6.length l0_6) (hc0_6 : l0_6.length ≤ c0_6) (hr0_9 : Kd.C k110 w A0_9 l0_9.length l0_9) (hc0_9 : l0_9.length ≤ c0_9) (h : spec_l21At.f k a0_0 l0_1 a0_2 l0_3 a0_4 a0_5 l0_6 a0_7 a0_8 l0_9 a0_10 a1 = some r) :
  Calls Try.prog 137 #[.agg #[.bool a0_0, .slice A0_1 l0_1.length c0_1, .int .i64 a0_2, .slice A0_3 l0_3.length c0_3, .int .i64 a0_4, .string a0_5, .slice A0_6 l0_6.length c0_6, .int .i64 a0_7, .int .i64 a0_8, .slice A0_9 l0_9.length c0_9, .bool a0_10], .int .i64 a1] w fun e w' => e = .returned (.int .i64 r) ∧ Below w.heap.size w w' := by
 have hu42 := Try.underlying42
 have HR0_1 := Aside0.mk hr0_1
 have HC0_1 := Aside0.mk hc0_1
 clear hr0_1 hc0_1
 have HR0_3 := Aside0.mk hr0_3
 have HC0_3 := Aside0.mk hc0_3
 clear hr0_3 hc0_3
 have HR0_6 := Aside0.mk hr0_6
 have HC0_6 := Aside0.mk hc0_6
 clear hr0_6 hc0_6
 have HR0_9 := Aside0.mk hr0_9
 have HC0_9 := Aside0.mk hc0_9
 clear hr0_9 hc0_9
 have HB := Aside0.mk (Below.refl w.heap.size w)
 have H : (spec_l21At.l0 k a1 0 a0_0 l0_1 a0_2 l0_3 a0_4 a0_5 l0_6 a0_7 a0_8 l0_9 a0_10) = some r := h
 clear h
 have H' := Aside0.mk H
 clear H
 go_enter Try.func137, Try.ntmps137
 go_wp2_with (first | ((with_reducible refine gd 2 rfl ?_); refine bx (N := 2) (cs := #[.bool a0_0, .slice A0_1 l0_1.length c0_1, .int .i64 a0_2, .slice A0_3 l0_3.length c0_3, .int .i64 a0_4, .string a0_5, .slice A0_6 l0_6.length c0_6, .int .i64 a0_7, .int .i64 a0_8, .slice A0_9 l0_9.length c0_9, .bool a0_10]) (t := 42) ?_; intro gb327 hg w3 hbox hb; have BK327 := Aside0.mk (hbox); have GW327 := gw HB hg; have GE327 := GW327; replace HB := Aside0.mk (below_step (zb HB) hb); clear hb hbox hg))
 go_loopg [5] k (fun kq v5 w' => ∃ (x5_1 : Int), v5 = .int .i64 x5_1 ∧ Aside0 (spec_l21At.l0 kq a1 x5_1 a0_0 l0_1 a0_2 l0_3 a0_4 a0_5 l0_6 a0_7 a0_8 l0_9 a0_10 = some r) ∧ Aside0 (kq ≤ k) ∧ Aside0 (w'.heap[gb327]? = some (.cells #[.bool a0_0, (.slice A0_1 l0_1.length c0_1), .int .i64 a0_2, (.slice A0_3 l0_3.length c0_3), .int .i64 a0_4, .string a0_5, (.slice A0_6 l0_6.length c0_6), .int .i64 a0_7, .int .i64 a0_8, (.slice A0_9 l0_9.length c0_9), .bool a0_10] 42 (0, 0))) ∧ Aside0 (Below w.heap.size w w'))
 case atStart => exact ⟨(0), zs, H', ⟨Nat.le_refl _⟩, ⟨by exact zk BK327⟩, ⟨zb HB⟩⟩
 case round =>
  clear H'
  try clear c1
  try clear p2
  obtain ⟨x5_1, rfl, HA, HK1, BK327, HB⟩ := hrel
  cases gk with
  | zero => exact absurd HA.out (by simp [spec_l21At.l0])
  | succ k1 =>
   have H := HA.out
   clear HA
   simp only [spec_l21At.l0] at H
   replace H := sp H
   rcases H with ⟨c4, H⟩ | ⟨c4, H⟩
   ·skip
    have c4b0 := decide_eq_true c4
    clear c4
    by_cases c5 : 0 ≤ x5_1
    ·rw [if_pos c5] at H
     have c5b0 := decide_eq_true c5
     clear c5
     by_cases c6 : ((rd_T104 l0_6 x5_1).f0) = a1
     ·rw [if_pos c6] at H
      have c6b0 : (((rd_T104 l0_6 x5_1).f0) == a1) = true := beq_iff_eq.mpr c6
      have c6b1 : (((rd_T104 l0_6 x5_1).f0) != a1) = false := bne_eq_false_iff_eq.mpr c6
      clear c6
      obtain rfl := Option.some.inj H
      obtain ⟨hcz7_0, hcz7_1, hcz7_2, hcz7_3, hcz7_4, hcz7_5, hcz7_6, hcz7_7, hcz7_8, hcz7_9, hcz7_10, hfz7_0, hfz7_1, hfz7_2, hfz7_3, hfz7_4, hfz7_5, hfz7_6, hfz7_7, hfz7_8, hfz7_9, hfz7_10⟩ := c11 BK327
      have p328 : 0 ≤ (x5_1 : Int) := of_decide_eq_true za
      have q328 : x5_1 < (l0_6.length : Int) := of_decide_eq_true za
      obtain ⟨ad328, A328_2, c328_2, A328_7, c328_7, e328, hx328_0, hx328_1, hx328_2, hx328_3, hx328_4, hx328_5, hx328_6, hx328_7, hx328_8, hx328_9, hx328_10, hx328_11, hl328_2, hi328_2, hl328_7, hi328_7⟩ := at_T104 HR0_6.out x5_1 p328 q328
      cases e328
      replace hx328_0 := cb0 hx328_0 HB
      replace hx328_1 := cb0 hx328_1 HB
      replace hx328_2 := cb0 hx328_2 HB
      replace hx328_3 := cb0 hx328_3 HB
      replace hx328_4 := cb0 hx328_4 HB
      replace hx328_5 := cb0 hx328_5 HB
      replace hx328_6 := cb0 hx328_6 HB
      replace hx328_7 := cb0 hx328_7 HB
      replace hx328_8 := cb0 hx328_8 HB
      replace hx328_9 := cb0 hx328_9 HB
      replace hx328_10 := cb0 hx328_10 HB
      replace hx328_11 := cb0 hx328_11 HB
      have HR328_2 := Aside0.mk hi328_2
      have HC328_2 := Aside0.mk hl328_2
      clear hi328_2 hl328_2
      have HR328_7 := Aside0.mk hi328_7
      have HC328_7 := Aside0.mk hl328_7
      clear hi328_7 hl328_7
      replace p328 := eq_true p328
      replace q328 := eq_true q328
      go_wp2
      go_ret
      exact ⟨ze, zb HB⟩
     ·rw [if_neg c6] at H
      have c6b0 : (((rd_T104 l0_6 x5_1).f0) == a1) = false := beq_eq_false_iff_ne.mpr c6
      have c6b1 : (((rd_T104 l0_6 x5_1).f0) != a1) = true := bne_iff_ne.mpr c6
      have H' := Aside0.mk H
      clear H
      obtain ⟨hcz8_0, hcz8_1, hcz8_2, hcz8_3, hcz8_4, hcz8_5, hcz8_6, hcz8_7, hcz8_8, hcz8_9, hcz8_10, hfz8_0, hfz8_1, hfz8_2, hfz8_3, hfz8_4, hfz8_5, hfz8_6, hfz8_7, hfz8_8, hfz8_9, hfz8_10⟩ := c11 BK327
      have p328 : 0 ≤ (x5_1 : Int) := of_decide_eq_true za
      have q328 : x5_1 < (l0_6.length : Int) := of_decide_eq_true za
      obtain ⟨ad328, A328_2, c328_2, A328_7, c328_7, e328, hx328_0, hx328_1, hx328_2, hx328_3, hx328_4, hx328_5, hx328_6, hx328_7, hx328_8, hx328_9, hx328_10, hx328_11, hl328_2, hi328_2, hl328_7, hi328_7⟩ := at_T104 HR0_6.out x5_1 p328 q328
      cases e328
      replace hx328_0 := cb0 hx328_0 HB
      replace hx328_1 := cb0 hx328_1 HB
      replace hx328_2 := cb0 hx328_2 HB
      replace hx328_3 := cb0 hx328_3 HB
      replace hx328_4 := cb0 hx328_4 HB
      replace hx328_5 := cb0 hx328_5 HB
      replace hx328_6 := cb0 hx328_6 HB
      replace hx328_7 := cb0 hx328_7 HB
      replace hx328_8 := cb0 hx328_8 HB
      replace hx328_9 := cb0 hx328_9 HB
      replace hx328_10 := cb0 hx328_10 HB
      replace hx328_11 := cb0 hx328_11 HB
      have HR328_2 := Aside0.mk hi328_2
      have HC328_2 := Aside0.mk hl328_2
      clear hi328_2 hl328_2
      have HR328_7 := Aside0.mk hi328_7
      have HC328_7 := Aside0.mk hl328_7
      clear hi328_7 hl328_7
      replace p328 := eq_true p328
      replace q328 := eq_true q328
      go_wp2
      go_roundg k1
      case measure => have := HK1.out; omega
      case rel => exact ⟨(wrap64 (x5_1 + 1)), zs, H', ⟨by have := HK1.out; omega⟩, ⟨by exact zk BK327⟩, ⟨zb HB⟩⟩
    ·rw [if_neg c5] at H
     exact absurd H (by simp)
   ·skip
    have c4b0 := decide_eq_false c4
    clear c4
    obtain rfl := Option.some.inj H
    obtain ⟨hcz9_0, hcz9_1, hcz9_2, hcz9_3, hcz9_4, hcz9_5, hcz9_6, hcz9_7, hcz9_8, hcz9_9, hcz9_10, hfz9_0, hfz9_1, hfz9_2, hfz9_3, hfz9_4, hfz9_5, hfz9_6, hfz9_7, hfz9_8, hfz9_9, hfz9_10⟩ := c11 BK327
    go_wp2
    go_ret
    exact ⟨ze, zb HB⟩

-- NOT PRINTED: function 103 (spec_l21Leave)

/-! ### spec_l21Fields: function 138 -/
-- thin
def spec_l21Fields.f (l0 : List (S88)) : Option ((List (S88))) := (some (([] : List (S88)) : List (S88))).bind fun y337 => (if y337.length + l0.length < 3518437208883 then (some (y337 ++ l0)) else (none))
set_option maxHeartbeats 8000000 in
set_option maxRecDepth 100000 in
theorem spec_l21Fields.calls (A0 : Option Addr) (c0 : Nat) (l0 : List (S88)) (r : List (S88)) (w : World) (hr0 : Kd.C k88 w A0 l0.length l0) (hc0 : l0.length ≤ c0) (h : spec_l21Fields.f l0 = some r) :
  Calls Try.prog 138 #[.slice A0 l0.length c0] w fun e w' => ∃ v0_ : Value, e = .returned (v0_) ∧ Kd.R k88 88 w' w.heap.size (fun _ => True) v0_ r ∧ Below w.heap.size w w' := by
 have HR0 := Aside0.mk hr0
 have HC0 := Aside0.mk hc0
 clear hr0 hc0
 have HB := Aside0.mk (Below.refl w.heap.size w)
 have H : ((some (([] : List (S88)) : List (S88))).bind fun y337 => (if y337.length + l0.length < 3518437208883 then (some (y337 ++ l0)) else (none))) = some r := h
 clear h
 obtain ⟨y337, hy337⟩ : ∃ y_ : List (S88), y_ = (([] : List (S88))) := ⟨_, rfl⟩
 replace H : (if y337.length + l0.length < 3518437208883 then (some (y337 ++ l0)) else (none)) = some r := by first | (rw [hy337]; with_reducible exact H) | (have H2_ := (Option.bind_some _ _).symm.trans H; rw [hy337]; with_reducible exact H2_) | (have H2_ := (Option.bind_some _ _).symm.trans H; with_reducible exact H2_) | with_reducible exact H | (rw [hy337]; exact H) | exact H
 have Ny337 := Aside0.mk hy337
 clear hy337
 replace H := sp H
 rcases H with ⟨c2, H⟩ | ⟨c2, H⟩
 ·skip
  have LMc2 := Aside0.mk c2
  clear c2
  obtain ⟨y340, hy340⟩ : ∃ y_ : List (S88), y_ = (y337 ++ l0) := ⟨_, rfl⟩
  replace H : (some y340) = some r := by first | (rw [hy340]; with_reducible exact H) | (have H2_ := (Option.bind_some _ _).symm.trans H; rw [hy340]; with_reducible exact H2_) | (have H2_ := (Option.bind_some _ _).symm.trans H; with_reducible exact H2_) | with_reducible exact H | (rw [hy340]; exact H) | exact H
  have Ny340 := Aside0.mk hy340
  clear hy340
  obtain rfl := Option.some.inj H
  go_enter Try.func138, Try.ntmps138
  go_wp2_with (first | ((with_reducible refine gd 3 rfl ?_); refine Kd.R_lit k88 _ 88 ?hg (N := 3) ?hd (xs := ([] : List (S88))) (inner := []) (ok := fun _ => True) (okp := fun _ => True) ?hr ?hp (fun _ hk => hk) trivial (Below.refl _ _) (Nat.le_refl _) (by simp) ?_; (case hd => rfl); (case hg => rfl); (case hr => first | (go_simp; done) | (go_simp; rfl)); (case hp => exact (Reps.none _ _)); intro v338 w3 ho4 hb hg_ hnew_; clear hg_ hnew_; (first | rw [← Ny337.out] at ho4 | (simp only [Int.reduceToNat] at ho4; rw [← Ny337.out] at ho4)); have HO339 := Aside0.mk (Kd.R_lower ho4 (below_size (zb HB))); replace HB := Aside0.mk (below_step (zb HB) hb); clear hb ho4) | ((with_reducible refine gate_builtin (b := .append) (xs := #[.tmp 3, .tmp 4]) rfl ?_); at_builtin; refine Kd.R_append_rows k88 (w0 := w) w.heap.size rfl (.tmp 3) (.tmp 4) 23 88 (.agg #[(.string ⟨#[]⟩), (.string ⟨#[]⟩), (.bool false)]) 40 rfl Try.underlying23 info88 rfl (by decide) (by omega) v338 y337 l0 _ _ _ (fun _ => True) (fun _ => False) rfl rfl ?aO ?aR (fun _ _ h => h) (fun _ h => h.elim) ?aF ?aB ?aS ?aL ?_; (case aR => exact zc (Kd.C_below HR0.out HB.out)); (case aB => exact (zb HB)); (case aF => exact (fun _ _ => trivial)); (case aO => exact (zr HO339)); (case aS => exact (below_size (zb HB))); (case aL => have := LMc2.out; omega); intro v341 w5 ho hb hg hat; rw [← Ny340.out] at ho; replace HB := Aside0.mk (hb); have HO342 := Aside0.mk (ho); clear HO339; clear ho hb hg hat))
  go_ret
  exact ⟨_, ze, zq (HO342.out), zb HB⟩
 ·skip
  exact absurd H (by simp)

/-! ### spec_l21Copy: function 104 -/
-- thin
def spec_l21Copy.l0 : Nat → List (S104) → Int → Bool → List (S88) → Int → List (S88) → Int → ByteArray → List (S104) → Int → Int → List (S110) → Bool → Option (Bool × (List (S88)) × Int × (List (S88)) × Int × ByteArray × (List (S104)) × Int × Int × (List (S110)) × Bool)
 | 0, _, _, _, _, _, _, _, _, _, _, _, _, _ => none
 | k + 1, x3, x4, x344000, x344001, x344002, x344003, x344004, x344005, x344006, x344007, x344008, x344009, x344010 => if x4 < (x344006.length : Int) then (if 0 ≤ x4 then ((spec_l21Fields.f ((rd_T104 x344006 x4).f2)).bind fun t356 => ((spec_l21Fields.f ((rd_T104 x344006 x4).f7)).bind fun t359 => (if x3.length < 1034834473200 then (spec_l21Copy.l0 k (x3 ++ [(⟨(rd_T104 x344006 x4).f0, (rd_T104 x344006 x4).f1, t356, (rd_T104 x344006 x4).f3, (rd_T104 x344006 x4).f4, (rd_T104 x344006 x4).f5, (rd_T104 x344006 x4).f6, t359, (rd_T104 x344006 x4).f8, (rd_T104 x344006 x4).f9, (⟨(rd_T104 x344006 x4).f10.f0, (rd_T104 x344006 x4).f10.f1⟩ : S39)⟩ : S104)]) (wrap64 (x4 + 1)) x344000 x344001 x344002 x344003 x344004 x344005 x344006 x344007 x344008 x344009 x344010) else (none)))) else (none)) else ((some (([] : List (S110)) : List (S110))).bind fun y365 => (if y365.length + x344009.length < 3518437208883 then (some (x344000, x344001, x344002, x344003, x344004, x344005, x3, x344007, x344008, (y365 ++ x344009), x344010)) else (none)))
def spec_l21Copy.f (k : Nat) (a0_0 : Bool) (l0_1 : List (S88)) (a0_2 : Int) (l0_3 : List (S88)) (a0_4 : Int) (a0_5 : ByteArray) (l0_6 : List (S104)) (a0_7 : Int) (a0_8 : Int) (l0_9 : List (S110)) (a0_10 : Bool) : Option (Bool × (List (S88)) × Int × (List (S88)) × Int × ByteArray × (List (S104)) × Int × Int × (List (S110)) × Bool) := (spec_l21Fields.f l0_1).bind fun t345 => ((spec_l21Fields.f l0_3).bind fun t348 => (spec_l21Copy.l0 k (([] : List (S104))) 0 a0_0 t345 a0_2 t348 a0_4 a0_5 l0_6 a0_7 a0_8 l0_9 a0_10))
theorem spec_l21Copy.mono_l : ∀ k, (∀ y0 y1 y2 y3 y4 y5 y6 y7 y8 y9 y10 y11 y12, LeO (spec_l21Copy.l0 k y0 y1 y2 y3 y4 y5 y6 y7 y8 y9 y10 y11 y12) (spec_l21Copy.l0 (k + 1) y0 y1 y2 y3 y4 y5 y6 y7 y8 y9 y10 y11 y12))
 | 0 => fun _ _ _ _ _ _ _ _ _ _ _ _ _ r h => by simp [spec_l21Copy.l0] at h
 | k + 1 => by
  have ih0 := spec_l21Copy.mono_l k
  ·intro y0 y1 y2 y3 y4 y5 y6 y7 y8 y9 y10 y11 y12
   unfold spec_l21Copy.l0
   exact zm
theorem spec_l21Copy.mono : ∀ a0 a1 a2 a3 a4 a5 a6 a7 a8 a9 a10 k, LeO (spec_l21Copy.f k a0 a1 a2 a3 a4 a5 a6 a7 a8 a9 a10) (spec_l21Copy.f (k + 1) a0 a1 a2 a3 a4 a5 a6 a7 a8 a9 a10) := by
 intro a0 a1 a2 a3 a4 a5 a6 a7 a8 a9 a10 k
 have ih0 := spec_l21Copy.mono_l k
 unfold spec_l21Copy.f
 exact zm
set_option maxHeartbeats 8000000 in
set_option maxRecDepth 100000 in
theorem spec_l21Copy.calls (k : Nat) (a0_0 : Bool) (A0_1 : Option Addr) (c0_1 : Nat) (l0_1 : List (S88)) (a0_2 : Int) (A0_3 : Option Addr) (c0_3 : Nat) (l0_3 : List (S88)) (a0_4 : Int) (a0_5 : ByteArray) (A0_6 : Option Addr) (c0_6 : Nat) (l0_6 : List (S104)) (a0_7 : Int) (a0_8 : Int) (A0_9 : Option Addr) (c0_9 : Nat) (l0_9 : List (S110)) (a0_10 : Bool) (r1 : Bool) (r2 : List (S88)) (r3 : Int) (r4 : List (S88)) (r5 : Int) (r6 : ByteArray) (r7 : List (S104)) (r8 : Int) (r9 : Int) (r10 : List (S110)) (r11 : Bool) (w : World) (hr0_1 : Kd.C k88 w A0_1 l0_1.length l0_1) (hc0_1 : l0_1.length ≤ c0_1) (hr0_3 : Kd.C k88 w A0_3 l0_3.length l0_3) (hc0_3 : l0_3.length ≤ c0_3) (hr0_6 : Kd.C k104 w A0_6 l0_6.length l0_6) (hc0_6 : l0_6.length ≤ c0_6) (hr0_9 : Kd.C k110 w A0_9 l0_9.length l0_9) (hc0_9 : l0_9.length ≤ c0_9) (h : spec_l21Copy.f k a0_0 l0_1 a0_2 l0_3 a0_4 a0_5 l0_6 a0_7 a0_8 l0_9 a0_10 = some (r1, r2, r3, r4, r5, r6, r7, r8, r9, r10, r11)) :
  Calls Try.prog 104 #[.agg #[.bool a0_0, .slice A0_1 l0_1.length c0_1, .int .i64 a0_2, .slice A0_3 l0_3.length c0_3, .int .i64 a0_4, .string a0_5, .slice A0_6 l0_6.length c0_6, .int .i64 a0_7, .int .i64 a0_8, .slice A0_9 l0_9.length c0_9, .bool a0_10]] w fun e w' => ∃ v1_ v3_ v6_ v9_ : Value, e = .returned (.agg #[.bool r1, v1_, .int .i64 r3, v3_, .int .i64 r5, .string r6, v6_, .int .i64 r8, .int .i64 r9, v9_, .bool r11]) ∧ Kd.R k88 88 w' w.heap.size (fun k_ => some k_ ≠ (v3_ : Value).ownBlock) v1_ r2 ∧ Kd.R k88 88 w' w.heap.size (fun k_ => some k_ ≠ (v1_ : Value).ownBlock) v3_ r4 ∧ Kd.S k104 104 w' w.heap.size (fun k_ => some k_ ≠ (v1_ : Value).ownBlock ∧ some k_ ≠ (v3_ : Value).ownBlock) v6_ r7 ∧ Kd.R k110 110 w' w.heap.size (fun _ => True) v9_ r10 ∧ Below w.heap.size w w' := by
 have hu42 := Try.underlying42
 have hu104 := Try.underlying104
 have HR0_1 := Aside0.mk hr0_1
 have HC0_1 := Aside0.mk hc0_1
 clear hr0_1 hc0_1
 have HR0_3 := Aside0.mk hr0_3
 have HC0_3 := Aside0.mk hc0_3
 clear hr0_3 hc0_3
 have HR0_6 := Aside0.mk hr0_6
 have HC0_6 := Aside0.mk hc0_6
 clear hr0_6 hc0_6
 have HR0_9 := Aside0.mk hr0_9
 have HC0_9 := Aside0.mk hc0_9
 clear hr0_9 hc0_9
 have HB := Aside0.mk (Below.refl w.heap.size w)
 have H : ((spec_l21Fields.f l0_1).bind fun t345 => ((spec_l21Fields.f l0_3).bind fun t348 => (spec_l21Copy.l0 k (([] : List (S104))) 0 a0_0 t345 a0_2 t348 a0_4 a0_5 l0_6 a0_7 a0_8 l0_9 a0_10))) = some (r1, r2, r3, r4, r5, r6, r7, r8, r9, r10, r11) := h
 clear h
 obtain ⟨t345, A2, H⟩ := ob H
 (try dsimp only at H)
 obtain ⟨t348, A3, H⟩ := ob H
 (try dsimp only at H)
 obtain ⟨y351, hy351⟩ : ∃ y_ : List (S104), y_ = (([] : List (S104))) := ⟨_, rfl⟩
 replace H : (spec_l21Copy.l0 k y351 0 a0_0 t345 a0_2 t348 a0_4 a0_5 l0_6 a0_7 a0_8 l0_9 a0_10) = some (r1, r2, r3, r4, r5, r6, r7, r8, r9, r10, r11) := by first | (rw [hy351]; with_reducible exact H) | (have H2_ := (Option.bind_some _ _).symm.trans H; rw [hy351]; with_reducible exact H2_) | (have H2_ := (Option.bind_some _ _).symm.trans H; with_reducible exact H2_) | with_reducible exact H | (rw [hy351]; exact H) | exact H
 have Ny351 := Aside0.mk hy351
 clear hy351
 have H' := Aside0.mk H
 clear H
 go_enter Try.func104, Try.ntmps104
 go_wp2_with (first | ((with_reducible refine gd 1 rfl ?_); refine bx (N := 1) (cs := #[.bool a0_0, .slice A0_1 l0_1.length c0_1, .int .i64 a0_2, .slice A0_3 l0_3.length c0_3, .int .i64 a0_4, .string a0_5, .slice A0_6 l0_6.length c0_6, .int .i64 a0_7, .int .i64 a0_8, .slice A0_9 l0_9.length c0_9, .bool a0_10]) (t := 42) ?_; intro gb343 hg w4 hbox hb; have BK343 := Aside0.mk (hbox); have GW343 := gw HB hg; have GE343 := GW343; replace HB := Aside0.mk (below_step (zb HB) hb); clear hb hbox hg) | ((with_reducible refine gd 2 rfl ?_); refine bx (N := 2) (cs := #[.bool false, .slice none 0 0, .int .i64 0, .slice none 0 0, .int .i64 0, .string (⟨#[]⟩ : ByteArray), .slice none 0 0, .int .i64 0, .int .i64 0, .slice none 0 0, .bool false]) (t := 42) ?_; intro gb344 hg w5 hbox hb; have BK344 := Aside0.mk (hbox); have GW344 := gw HB hg; have GE344 := GW344; replace HB := Aside0.mk (below_step (zb HB) hb); obtain ⟨NB343_344, NB344_343⟩ := nb BK343 hg; replace BK343 := kb BK343 hb; clear hb hbox hg; have hnb6 := NB343_344.out; have hnc6 := NB344_343.out; obtain ⟨hcz7_0, hcz7_1, hcz7_2, hcz7_3, hcz7_4, hcz7_5, hcz7_6, hcz7_7, hcz7_8, hcz7_9, hcz7_10, hfz7_0, hfz7_1, hfz7_2, hfz7_3, hfz7_4, hfz7_5, hfz7_6, hfz7_7, hfz7_8, hfz7_9, hfz7_10⟩ := c11 BK343) | ((with_reducible refine gq 138 rfl ?_); refine gl (some 9) Try.func138 #[.slice A0_1 l0_1.length c0_1] ?_; (with_reducible refine (spec_l21Fields.calls _ _ l0_1 t345 _ ?side1 ?side2 A2.out).mono ?_); (case side1 => exact zc (Kd.C_below HR0_1.out HB.out)); (case side2 => exact HC0_1.out); rintro e w8 ⟨v346, rfl, ho0, hb⟩; refine ⟨_, rfl, ?_⟩; have HO347 := Aside0.mk (Kd.R_lower ho0 (below_size (zb HB))); replace BK343 := kb BK343 hb; replace BK344 := kb BK344 hb; replace HB := Aside0.mk (below_step (zb HB) hb); (try clear hb); (try clear ho0); obtain ⟨Ao9, co9, eo9⟩ := Kd.R_slice HO347.out; subst eo9; obtain ⟨hcz10_0, hcz10_1, hcz10_2, hcz10_3, hcz10_4, hcz10_5, hcz10_6, hcz10_7, hcz10_8, hcz10_9, hcz10_10, hfz10_0, hfz10_1, hfz10_2, hfz10_3, hfz10_4, hfz10_5, hfz10_6, hfz10_7, hfz10_8, hfz10_9, hfz10_10⟩ := c11 BK343) | ((with_reducible refine gq 138 rfl ?_); refine gl (some 15) Try.func138 #[.slice A0_3 l0_3.length c0_3] ?_; (with_reducible refine (spec_l21Fields.calls _ _ l0_3 t348 _ ?side1 ?side2 A3.out).mono ?_); (case side1 => exact Kd.C_below HR0_3.out (zb HB)); (case side2 => exact HC0_3.out); rintro e w11 ⟨v349, rfl, ho0, hb⟩; refine ⟨_, rfl, ?_⟩; have HO350 := Aside0.mk (Kd.R_lower (Kd.R_new' ho0 (Kd.R_lt (((Kd.R_mono (ztR (Kd.R_types HO347.out BK343.out (by decide))) (fun _ h_ => h_.1)))))) (below_size (zb HB))); replace HO347 := Aside0.mk (Kd.R_elder' (((Kd.R_mono (ztR (Kd.R_types HO347.out BK343.out (by decide))) (fun _ h_ => h_.1)))) (Kd.R_base ho0) hb); replace BK343 := Aside0.mk (blk_below (g := gb343) (o := .cells #[.bool a0_0, .slice Ao9 t345.length co9, .int .i64 a0_2, .slice A0_3 l0_3.length c0_3, .int .i64 a0_4, .string a0_5, .slice A0_6 l0_6.length c0_6, .int .i64 a0_7, .int .i64 a0_8, .slice A0_9 l0_9.length c0_9, .bool a0_10] 42 (0, 0)) (zp BK343) hb); replace BK344 := Aside0.mk (blk_below (g := gb344) (o := .cells #[.bool false, .slice none 0 0, .int .i64 0, .slice none 0 0, .int .i64 0, .string (⟨#[]⟩ : ByteArray), .slice none 0 0, .int .i64 0, .int .i64 0, .slice none 0 0, .bool false] 42 (0, 0)) (zp BK344) hb); replace HB := Aside0.mk (below_step (zb HB) hb); (try clear hb); (try clear ho0); obtain ⟨Ao12, co12, eo12⟩ := Kd.R_slice HO350.out; subst eo12; obtain ⟨hcz13_0, hcz13_1, hcz13_2, hcz13_3, hcz13_4, hcz13_5, hcz13_6, hcz13_7, hcz13_8, hcz13_9, hcz13_10, hfz13_0, hfz13_1, hfz13_2, hfz13_3, hfz13_4, hfz13_5, hfz13_6, hfz13_7, hfz13_8, hfz13_9, hfz13_10⟩ := c11 BK343) | ((with_reducible refine gd 18 rfl ?_); refine Kd.S_lit k104 _ 104 ?hg (N := 18) ?hd (xs := ([] : List (S104))) (inner := []) (ok := fun _ => True) (okp := fun _ => True) ?hr ?hp (fun _ hk => hk) trivial (Below.refl _ _) (Nat.le_refl _) (by simp) ?_; (case hd => rfl); (case hg => rfl); (case hr => first | (go_simp; done) | (go_simp; rfl)); (case hp => exact (Reps.none _ _)); intro v352 w14 ho15 hb hg_ hnew_; clear hg_ hnew_; (first | rw [← Ny351.out] at ho15 | (simp only [Int.reduceToNat] at ho15; rw [← Ny351.out] at ho15)); have HO353 := Aside0.mk (Kd.S_lower (Kd.S_new' (Kd.S_new' ho15 (Kd.R_lt (((Kd.R_mono (ztR (Kd.R_types HO347.out BK343.out (by decide))) (fun _ h_ => h_.1)))))) (Kd.R_lt (((Kd.R_mono (ztR (Kd.R_types HO350.out BK343.out (by decide))) (fun _ h_ => h_.1)))))) (below_size (zb HB))); replace HO347 := Aside0.mk (Kd.R_below (((Kd.R_mono (ztR (Kd.R_types HO347.out BK343.out (by decide))) (fun _ h_ => h_.1)))) hb); replace HO350 := Aside0.mk (Kd.R_below (((Kd.R_mono (ztR (Kd.R_types HO350.out BK343.out (by decide))) (fun _ h_ => h_.1)))) hb); replace BK343 := Aside0.mk (blk_below (g := gb343) (o := .cells #[.bool a0_0, .slice Ao9 t345.length co9, .int .i64 a0_2, .slice Ao12 t348.length co12, .int .i64 a0_4, .string a0_5, .slice A0_6 l0_6.length c0_6, .int .i64 a0_7, .int .i64 a0_8, .slice A0_9 l0_9.length c0_9, .bool a0_10] 42 (0, 0)) (zp BK343) hb); replace BK344 := Aside0.mk (blk_below (g := gb344) (o := .cells #[.bool false, .slice none 0 0, .int .i64 0, .slice none 0 0, .int .i64 0, .string (⟨#[]⟩ : ByteArray), .slice none 0 0, .int .i64 0, .int .i64 0, .slice none 0 0, .bool false] 42 (0, 0)) (zp BK344) hb); replace HB := Aside0.mk (below_step (zb HB) hb); clear hb ho15))
 go_loopg [3, 4] k (fun kq v3 v4 w' => ∃ (x3_1 : List (S104)) (x4_1 : Int), v4 = .int .i64 x4_1 ∧ Aside0 (spec_l21Copy.l0 kq x3_1 x4_1 a0_0 t345 a0_2 t348 a0_4 a0_5 l0_6 a0_7 a0_8 l0_9 a0_10 = some (r1, r2, r3, r4, r5, r6, r7, r8, r9, r10, r11)) ∧ Aside0 (kq ≤ k) ∧ Aside0 (Kd.S k104 104 w' w.heap.size (fun k_ => some k_ ≠ ((.slice Ao9 t345.length co9) : Value).ownBlock ∧ some k_ ≠ ((.slice Ao12 t348.length co12) : Value).ownBlock) v3 x3_1) ∧ Aside0 (Kd.R k88 88 w' w.heap.size (fun k_ => some k_ ≠ ((.slice Ao12 t348.length co12) : Value).ownBlock) (.slice Ao9 t345.length co9) t345) ∧ Aside0 (Kd.R k88 88 w' w.heap.size (fun k_ => some k_ ≠ ((.slice Ao9 t345.length co9) : Value).ownBlock) (.slice Ao12 t348.length co12) t348) ∧ Aside0 (w'.heap[gb343]? = some (.cells #[.bool a0_0, (.slice Ao9 t345.length co9), .int .i64 a0_2, (.slice Ao12 t348.length co12), .int .i64 a0_4, .string a0_5, (.slice A0_6 l0_6.length c0_6), .int .i64 a0_7, .int .i64 a0_8, (.slice A0_9 l0_9.length c0_9), .bool a0_10] 42 (0, 0))) ∧ Aside0 (w'.heap[gb344]? = some (.cells #[.bool false, (.slice none 0 0), .int .i64 0, (.slice none 0 0), .int .i64 0, .string (⟨#[]⟩ : ByteArray), (.slice none 0 0), .int .i64 0, .int .i64 0, (.slice none 0 0), .bool false] 42 (0, 0))) ∧ Aside0 (Below w.heap.size w w'))
 case atStart => exact ⟨(y351), (0), zs, H', ⟨Nat.le_refl _⟩, ⟨by (with_reducible repeat (first | apply Kd.S_alloc | apply Kd.S_drewN | apply Kd.S_drew)); exact Kd.S_mono HO353.out (fun _ hk => ⟨hk.1.2, hk.2⟩)⟩, ⟨zq (Kd.R_mono HO347.out (fun _ hk => hk.2))⟩, ⟨zq (Kd.R_mono HO350.out (fun _ hk => hk.2))⟩, ⟨by exact zk BK343⟩, ⟨by exact zk BK344⟩, ⟨zb HB⟩⟩
 case round =>
  clear H'
  try clear c1
  try clear p2
  try clear c6
  try clear c10
  try clear c13
  try clear hcz10_0
  try clear hcz10_1
  try clear hcz10_10
  try clear hcz10_2
  try clear hcz10_3
  try clear hcz10_4
  try clear hcz10_5
  try clear hcz10_6
  try clear hcz10_7
  try clear hcz10_8
  try clear hcz10_9
  try clear hcz13_0
  try clear hcz13_1
  try clear hcz13_10
  try clear hcz13_2
  try clear hcz13_3
  try clear hcz13_4
  try clear hcz13_5
  try clear hcz13_6
  try clear hcz13_7
  try clear hcz13_8
  try clear hcz13_9
  try clear hcz7_0
  try clear hcz7_1
  try clear hcz7_10
  try clear hcz7_2
  try clear hcz7_3
  try clear hcz7_4
  try clear hcz7_5
  try clear hcz7_6
  try clear hcz7_7
  try clear hcz7_8
  try clear hcz7_9
  try clear hfz10_0
  try clear hfz10_1
  try clear hfz10_10
  try clear hfz10_2
  try clear hfz10_3
  try clear hfz10_4
  try clear hfz10_5
  try clear hfz10_6
  try clear hfz10_7
  try clear hfz10_8
  try clear hfz10_9
  try clear hfz13_0
  try clear hfz13_1
  try clear hfz13_10
  try clear hfz13_2
  try clear hfz13_3
  try clear hfz13_4
  try clear hfz13_5
  try clear hfz13_6
  try clear hfz13_7
  try clear hfz13_8
  try clear hfz13_9
  try clear hfz7_0
  try clear hfz7_1
  try clear hfz7_10
  try clear hfz7_2
  try clear hfz7_3
  try clear hfz7_4
  try clear hfz7_5
  try clear hfz7_6
  try clear hfz7_7
  try clear hfz7_8
  try clear hfz7_9
  obtain ⟨x3_1, x4_1, rfl, HA, HK1, HO_3, HO_344001, HO_344003, BK343, BK344, HB⟩ := hrel
  cases gk with
  | zero => exact absurd HA.out (by simp [spec_l21Copy.l0])
  | succ k1 =>
   have H := HA.out
   clear HA
   simp only [spec_l21Copy.l0] at H
   replace H := sp H
   rcases H with ⟨c16, H⟩ | ⟨c16, H⟩
   ·skip
    have c16b0 := decide_eq_true c16
    clear c16
    by_cases c17 : 0 ≤ x4_1
    ·rw [if_pos c17] at H
     have c17b0 := decide_eq_true c17
     clear c17
     obtain ⟨t356, A18, H⟩ := ob H
     (try dsimp only at H)
     obtain ⟨t359, A19, H⟩ := ob H
     (try dsimp only at H)
     by_cases c20 : x3_1.length < 1034834473200
     ·rw [if_pos c20] at H
      have LMc20 := Aside0.mk c20
      clear c20
      obtain ⟨y362, hy362⟩ : ∃ y_ : List (S104), y_ = (x3_1 ++ [(⟨(rd_T104 l0_6 x4_1).f0, (rd_T104 l0_6 x4_1).f1, t356, (rd_T104 l0_6 x4_1).f3, (rd_T104 l0_6 x4_1).f4, (rd_T104 l0_6 x4_1).f5, (rd_T104 l0_6 x4_1).f6, t359, (rd_T104 l0_6 x4_1).f8, (rd_T104 l0_6 x4_1).f9, (⟨(rd_T104 l0_6 x4_1).f10.f0, (rd_T104 l0_6 x4_1).f10.f1⟩ : S39)⟩ : S104)]) := ⟨_, rfl⟩
      replace H : (spec_l21Copy.l0 k1 y362 (wrap64 (x4_1 + 1)) a0_0 t345 a0_2 t348 a0_4 a0_5 l0_6 a0_7 a0_8 l0_9 a0_10) = some (r1, r2, r3, r4, r5, r6, r7, r8, r9, r10, r11) := by first | (rw [hy362]; with_reducible exact H) | (have H2_ := (Option.bind_some _ _).symm.trans H; rw [hy362]; with_reducible exact H2_) | (have H2_ := (Option.bind_some _ _).symm.trans H; with_reducible exact H2_) | with_reducible exact H | (rw [hy362]; exact H) | exact H
      have Ny362 := Aside0.mk hy362
      clear hy362
      have H' := Aside0.mk H
      clear H
      have hnb21 := NB343_344.out
      have hnc21 := NB344_343.out
      obtain ⟨hcz22_0, hcz22_1, hcz22_2, hcz22_3, hcz22_4, hcz22_5, hcz22_6, hcz22_7, hcz22_8, hcz22_9, hcz22_10, hfz22_0, hfz22_1, hfz22_2, hfz22_3, hfz22_4, hfz22_5, hfz22_6, hfz22_7, hfz22_8, hfz22_9, hfz22_10⟩ := c11 BK343
      have p354 : 0 ≤ (x4_1 : Int) := of_decide_eq_true za
      have q354 : x4_1 < (l0_6.length : Int) := of_decide_eq_true za
      obtain ⟨ad354, A354_2, c354_2, A354_7, c354_7, e354, hx354_0, hx354_1, hx354_2, hx354_3, hx354_4, hx354_5, hx354_6, hx354_7, hx354_8, hx354_9, hx354_10, hx354_11, hl354_2, hi354_2, hl354_7, hi354_7⟩ := at_T104 HR0_6.out x4_1 p354 q354
      cases e354
      replace hx354_0 := cb0 hx354_0 HB
      replace hx354_1 := cb0 hx354_1 HB
      replace hx354_2 := cb0 hx354_2 HB
      replace hx354_3 := cb0 hx354_3 HB
      replace hx354_4 := cb0 hx354_4 HB
      replace hx354_5 := cb0 hx354_5 HB
      replace hx354_6 := cb0 hx354_6 HB
      replace hx354_7 := cb0 hx354_7 HB
      replace hx354_8 := cb0 hx354_8 HB
      replace hx354_9 := cb0 hx354_9 HB
      replace hx354_10 := cb0 hx354_10 HB
      replace hx354_11 := cb0 hx354_11 HB
      have HR354_2 := Aside0.mk hi354_2
      have HC354_2 := Aside0.mk hl354_2
      clear hi354_2 hl354_2
      have HR354_7 := Aside0.mk hi354_7
      have HC354_7 := Aside0.mk hl354_7
      clear hi354_7 hl354_7
      replace p354 := eq_true p354
      replace q354 := eq_true q354
      go_wp2_with (first | ((with_reducible refine gd 5 rfl ?_); refine bx (N := 5) (cs := #[.int .i64 0, .int .i64 0, .slice none 0 0, .string (⟨#[]⟩ : ByteArray), .bool false, .bool false, .int .i64 0, .slice none 0 0, .string (⟨#[]⟩ : ByteArray), .bool false, .int .i64 0, .int .i64 0]) (t := 104) ?_; intro gb355 hg w23 hbox hb; replace HO_3 := Aside0.mk (Kd.S_below (Kd.S_elderB (by (with_reducible repeat (first | apply Kd.S_alloc | apply Kd.S_drewN | apply Kd.S_drew)); exact HO_3.out) gb355 (Nat.le_of_eq hg.symm)) hb); replace HO_344001 := Aside0.mk (Kd.R_below (zr HO_344001) hb); replace HO_344003 := Aside0.mk (Kd.R_below (zr HO_344003) hb); have BK355 := Aside0.mk (hbox); have GW355 := gw HB hg; have GE355 := GW355; replace HB := Aside0.mk (below_step (zb HB) hb); obtain ⟨NB343_355, NB355_343⟩ := nb BK343 hg; replace BK343 := kb BK343 hb; obtain ⟨NB344_355, NB355_344⟩ := nb BK344 hg; replace BK344 := kb BK344 hb; clear hb hbox hg; have hnb24 := NB355_343.out; have hnc24 := NB343_355.out; have hnb25 := NB355_344.out; have hnc25 := NB344_355.out; obtain ⟨hcz26_0, hcz26_1, hcz26_2, hcz26_3, hcz26_4, hcz26_5, hcz26_6, hcz26_7, hcz26_8, hcz26_9, hcz26_10, hcz26_11, hfz26_0, hfz26_1, hfz26_2, hfz26_3, hfz26_4, hfz26_5, hfz26_6, hfz26_7, hfz26_8, hfz26_9, hfz26_10, hfz26_11⟩ := c12 BK355) | ((with_reducible refine gq 138 rfl ?_); refine gl (some 33) Try.func138 #[.slice A354_2 ((rd_T104 l0_6 x4_1).f2).length c354_2] ?_; (with_reducible refine (spec_l21Fields.calls _ _ ((rd_T104 l0_6 x4_1).f2) t356 _ ?side1 ?side2 A18.out).mono ?_); (case side1 => exact Kd.C_below HR354_2.out (zb HB)); (case side2 => exact HC354_2.out); rintro e w27 ⟨v357, rfl, ho0, hb⟩; refine ⟨_, rfl, ?_⟩; replace HO_3 := Aside0.mk (Kd.S_elder' (by (with_reducible repeat (first | apply Kd.S_alloc | apply Kd.S_drewN | apply Kd.S_drew)); exact (Kd.S_mono (ztS (Kd.S_mono HO_3.out (fun k_ hk => (⟨hk, hk.2⟩ : _ ∧ k_ ≠ gb355)))) (fun _ h_ => h_.1))) (Kd.R_base ho0) hb); have HO358 := Aside0.mk (Kd.R_lower (Kd.R_new' (Kd.R_new' ho0 (Kd.R_lt (((Kd.R_mono (ztR (Kd.R_types HO_344001.out BK355.out (by decide))) (fun _ h_ => h_.1)))))) (Kd.R_lt (((Kd.R_mono (ztR (Kd.R_types HO_344003.out BK355.out (by decide))) (fun _ h_ => h_.1)))))) (below_size (zb HB))); replace HO_344001 := Aside0.mk (Kd.R_elder' (((Kd.R_mono (ztR (Kd.R_types HO_344001.out BK355.out (by decide))) (fun _ h_ => h_.1)))) (Kd.R_base ho0) hb); replace HO_344003 := Aside0.mk (Kd.R_elder' (((Kd.R_mono (ztR (Kd.R_types HO_344003.out BK355.out (by decide))) (fun _ h_ => h_.1)))) (Kd.R_base ho0) hb); replace BK343 := Aside0.mk (blk_below (g := gb343) (o := .cells #[.bool a0_0, .slice Ao9 t345.length co9, .int .i64 a0_2, .slice Ao12 t348.length co12, .int .i64 a0_4, .string a0_5, .slice (some ad354) l0_6.length c0_6, .int .i64 a0_7, .int .i64 a0_8, .slice A0_9 l0_9.length c0_9, .bool a0_10] 42 (0, 0)) (zp BK343) hb); replace BK344 := Aside0.mk (blk_below (g := gb344) (o := .cells #[.bool false, .slice none 0 0, .int .i64 0, .slice none 0 0, .int .i64 0, .string (⟨#[]⟩ : ByteArray), .slice none 0 0, .int .i64 0, .int .i64 0, .slice none 0 0, .bool false] 42 (0, 0)) (zp BK344) hb); replace BK355 := Aside0.mk (blk_below (g := gb355) (o := .cells #[.int .i64 ((rd_T104 l0_6 x4_1).f0), .int .i64 ((rd_T104 l0_6 x4_1).f1), .slice A354_2 ((rd_T104 l0_6 x4_1).f2).length c354_2, .string ((rd_T104 l0_6 x4_1).f3), .bool ((rd_T104 l0_6 x4_1).f4), .bool ((rd_T104 l0_6 x4_1).f5), .int .i64 ((rd_T104 l0_6 x4_1).f6), .slice A354_7 ((rd_T104 l0_6 x4_1).f7).length c354_7, .string ((rd_T104 l0_6 x4_1).f8), .bool ((rd_T104 l0_6 x4_1).f9), .int .i64 ((rd_T104 l0_6 x4_1).f10.f0), .int .i64 ((rd_T104 l0_6 x4_1).f10.f1)] 104 (0, 0)) (zp BK355) hb); replace HB := Aside0.mk (below_step (zb HB) hb); (try clear hb); (try clear ho0); obtain ⟨Ao28, co28, eo28⟩ := Kd.R_slice HO358.out; subst eo28; obtain ⟨hcz29_0, hcz29_1, hcz29_2, hcz29_3, hcz29_4, hcz29_5, hcz29_6, hcz29_7, hcz29_8, hcz29_9, hcz29_10, hcz29_11, hfz29_0, hfz29_1, hfz29_2, hfz29_3, hfz29_4, hfz29_5, hfz29_6, hfz29_7, hfz29_8, hfz29_9, hfz29_10, hfz29_11⟩ := c12 BK355) | ((with_reducible refine gq 138 rfl ?_); refine gl (some 37) Try.func138 #[.slice A354_7 ((rd_T104 l0_6 x4_1).f7).length c354_7] ?_; (with_reducible refine (spec_l21Fields.calls _ _ ((rd_T104 l0_6 x4_1).f7) t359 _ ?side1 ?side2 A19.out).mono ?_); (case side1 => exact Kd.C_below HR354_7.out (zb HB)); (case side2 => exact HC354_7.out); rintro e w30 ⟨v360, rfl, ho0, hb⟩; refine ⟨_, rfl, ?_⟩; replace HO_3 := Aside0.mk (Kd.S_elder' (by (with_reducible repeat (first | apply Kd.S_alloc | apply Kd.S_drewN | apply Kd.S_drew)); exact (Kd.S_mono (ztS (Kd.S_mono HO_3.out (fun k_ hk => (⟨hk, hk.1.2⟩ : _ ∧ k_ ≠ gb355)))) (fun _ h_ => h_.1))) (Kd.R_base ho0) hb); have HO361 := Aside0.mk (Kd.R_lower (Kd.R_new' (Kd.R_new' (Kd.R_new' ho0 (Kd.R_lt (((Kd.R_mono (ztR (Kd.R_types HO_344001.out BK355.out (by decide))) (fun _ h_ => h_.1)))))) (Kd.R_lt (((Kd.R_mono (ztR (Kd.R_types HO_344003.out BK355.out (by decide))) (fun _ h_ => h_.1)))))) (Kd.R_lt (((Kd.R_mono (ztR (Kd.R_types HO358.out BK355.out (by decide))) (fun _ h_ => h_.1)))))) (below_size (zb HB))); replace HO_344001 := Aside0.mk (Kd.R_elder' (((Kd.R_mono (ztR (Kd.R_types HO_344001.out BK355.out (by decide))) (fun _ h_ => h_.1)))) (Kd.R_base ho0) hb); replace HO_344003 := Aside0.mk (Kd.R_elder' (((Kd.R_mono (ztR (Kd.R_types HO_344003.out BK355.out (by decide))) (fun _ h_ => h_.1)))) (Kd.R_base ho0) hb); replace HO358 := Aside0.mk (Kd.R_elder' (((Kd.R_mono (ztR (Kd.R_types HO358.out BK355.out (by decide))) (fun _ h_ => h_.1)))) (Kd.R_base ho0) hb); replace BK343 := Aside0.mk (blk_below (g := gb343) (o := .cells #[.bool a0_0, .slice Ao9 t345.length co9, .int .i64 a0_2, .slice Ao12 t348.length co12, .int .i64 a0_4, .string a0_5, .slice (some ad354) l0_6.length c0_6, .int .i64 a0_7, .int .i64 a0_8, .slice A0_9 l0_9.length c0_9, .bool a0_10] 42 (0, 0)) (zp BK343) hb); replace BK344 := Aside0.mk (blk_below (g := gb344) (o := .cells #[.bool false, .slice none 0 0, .int .i64 0, .slice none 0 0, .int .i64 0, .string (⟨#[]⟩ : ByteArray), .slice none 0 0, .int .i64 0, .int .i64 0, .slice none 0 0, .bool false] 42 (0, 0)) (zp BK344) hb); replace BK355 := Aside0.mk (blk_below (g := gb355) (o := .cells #[.int .i64 ((rd_T104 l0_6 x4_1).f0), .int .i64 ((rd_T104 l0_6 x4_1).f1), .slice Ao28 t356.length co28, .string ((rd_T104 l0_6 x4_1).f3), .bool ((rd_T104 l0_6 x4_1).f4), .bool ((rd_T104 l0_6 x4_1).f5), .int .i64 ((rd_T104 l0_6 x4_1).f6), .slice A354_7 ((rd_T104 l0_6 x4_1).f7).length c354_7, .string ((rd_T104 l0_6 x4_1).f8), .bool ((rd_T104 l0_6 x4_1).f9), .int .i64 ((rd_T104 l0_6 x4_1).f10.f0), .int .i64 ((rd_T104 l0_6 x4_1).f10.f1)] 104 (0, 0)) (zp BK355) hb); replace HB := Aside0.mk (below_step (zb HB) hb); (try clear hb); (try clear ho0); obtain ⟨Ao31, co31, eo31⟩ := Kd.R_slice HO361.out; subst eo31; obtain ⟨hcz32_0, hcz32_1, hcz32_2, hcz32_3, hcz32_4, hcz32_5, hcz32_6, hcz32_7, hcz32_8, hcz32_9, hcz32_10, hcz32_11, hfz32_0, hfz32_1, hfz32_2, hfz32_3, hfz32_4, hfz32_5, hfz32_6, hfz32_7, hfz32_8, hfz32_9, hfz32_10, hfz32_11⟩ := c12 BK355) | ((with_reducible refine gate_store (t := 23) (p := 38) rfl ?_); refine store_event (t := 23) (p := 38) (v := ?vo_w33) (w1 := (w30.setCell ⟨gb355, 7, none⟩ (.slice Ao31 t359.length co31))) ?hg ?ho ?hn ?hr ?_; (case ho => rfl); (case hg => rfl); (case hn => rfl); (case hr => first | (go_simp; done) | (go_simp; rfl)); intro w33 hw; replace HO_3 : Aside0 (Kd.S k104 104 w33 w.heap.size (fun k_ => some k_ ≠ (.slice Ao9 t345.length co9 : Value).ownBlock ∧ some k_ ≠ (.slice Ao12 t348.length co12 : Value).ownBlock ∧ some k_ ≠ (.slice Ao28 t356.length co28 : Value).ownBlock ∧ some k_ ≠ (.slice Ao31 t359.length co31 : Value).ownBlock ∧ k_ ≠ gb355) u3 x3_1) := ⟨(by rw [hw]; exact (by (with_reducible repeat (first | apply Kd.S_alloc | apply Kd.S_drewN | apply Kd.S_drew)); exact Kd.S_mono (ztS (Kd.S_mono HO_3.out (fun k_ hk => (⟨hk, hk.1.1.2⟩ : _ ∧ k_ ≠ gb355)))) (fun _ hk => ⟨hk.1.1.1.1.1, ⟨hk.1.1.1.1.2, ⟨hk.1.1.2, ⟨hk.1.2, hk.1.1.1.2⟩⟩⟩⟩)))⟩; replace HO_344001 : Aside0 (Kd.R k88 88 w33 w.heap.size (fun k_ => some k_ ≠ (.slice Ao12 t348.length co12 : Value).ownBlock ∧ some k_ ≠ (.slice Ao28 t356.length co28 : Value).ownBlock ∧ some k_ ≠ (.slice Ao31 t359.length co31 : Value).ownBlock) (.slice Ao9 t345.length co9) t345) := ⟨(by rw [hw]; exact ((Kd.R_mono (ztR (Kd.R_types HO_344001.out BK355.out (by decide))) (fun _ hk => ⟨hk.1.1.1, ⟨hk.1.1.2, hk.1.2⟩⟩))))⟩; replace HO_344003 : Aside0 (Kd.R k88 88 w33 w.heap.size (fun k_ => some k_ ≠ (.slice Ao9 t345.length co9 : Value).ownBlock ∧ some k_ ≠ (.slice Ao28 t356.length co28 : Value).ownBlock ∧ some k_ ≠ (.slice Ao31 t359.length co31 : Value).ownBlock) (.slice Ao12 t348.length co12) t348) := ⟨(by rw [hw]; exact ((Kd.R_mono (ztR (Kd.R_types HO_344003.out BK355.out (by decide))) (fun _ hk => ⟨hk.1.1.1, ⟨hk.1.1.2, hk.1.2⟩⟩))))⟩; replace HO358 : Aside0 (Kd.R k88 88 w33 w.heap.size (fun k_ => some k_ ≠ (.slice Ao9 t345.length co9 : Value).ownBlock ∧ some k_ ≠ (.slice Ao12 t348.length co12 : Value).ownBlock ∧ some k_ ≠ (.slice Ao31 t359.length co31 : Value).ownBlock) (.slice Ao28 t356.length co28) t356) := ⟨(by rw [hw]; exact ((Kd.R_mono (ztR (Kd.R_types HO358.out BK355.out (by decide))) (fun _ hk => ⟨hk.1.1.1.2, ⟨hk.1.1.2, hk.1.2⟩⟩))))⟩; replace HO361 : Aside0 (Kd.R k88 88 w33 w.heap.size (fun k_ => some k_ ≠ (.slice Ao9 t345.length co9 : Value).ownBlock ∧ some k_ ≠ (.slice Ao12 t348.length co12 : Value).ownBlock ∧ some k_ ≠ (.slice Ao28 t356.length co28 : Value).ownBlock) (.slice Ao31 t359.length co31) t359) := ⟨(by rw [hw]; exact ((Kd.R_mono (ztR (Kd.R_types HO361.out BK355.out (by decide))) (fun _ hk => ⟨hk.1.1.1.2, ⟨hk.1.1.2, hk.1.2⟩⟩))))⟩; replace BK343 : Aside0 (w33.heap[gb343]? = some (.cells #[.bool a0_0, .slice Ao9 t345.length co9, .int .i64 a0_2, .slice Ao12 t348.length co12, .int .i64 a0_4, .string a0_5, .slice (some ad354) l0_6.length c0_6, .int .i64 a0_7, .int .i64 a0_8, .slice A0_9 l0_9.length c0_9, .bool a0_10] 42 (0, 0))) := ⟨(by rw [hw]; exact (zp BK343))⟩; replace BK344 : Aside0 (w33.heap[gb344]? = some (.cells #[.bool false, .slice none 0 0, .int .i64 0, .slice none 0 0, .int .i64 0, .string (⟨#[]⟩ : ByteArray), .slice none 0 0, .int .i64 0, .int .i64 0, .slice none 0 0, .bool false] 42 (0, 0))) := ⟨(by rw [hw]; exact (zp BK344))⟩; replace BK355 : Aside0 (w33.heap[gb355]? = some (.cells #[.int .i64 ((rd_T104 l0_6 x4_1).f0), .int .i64 ((rd_T104 l0_6 x4_1).f1), .slice Ao28 t356.length co28, .string ((rd_T104 l0_6 x4_1).f3), .bool ((rd_T104 l0_6 x4_1).f4), .bool ((rd_T104 l0_6 x4_1).f5), .int .i64 ((rd_T104 l0_6 x4_1).f6), .slice Ao31 t359.length co31, .string ((rd_T104 l0_6 x4_1).f8), .bool ((rd_T104 l0_6 x4_1).f9), .int .i64 ((rd_T104 l0_6 x4_1).f10.f0), .int .i64 ((rd_T104 l0_6 x4_1).f10.f1)] 104 (0, 0))) := ⟨(by rw [hw]; exact (zp BK355))⟩; replace HB : Aside0 (Below w.heap.size w w33) := ⟨(by rw [hw]; exact (zb HB))⟩; clear hw; obtain ⟨hcz34_0, hcz34_1, hcz34_2, hcz34_3, hcz34_4, hcz34_5, hcz34_6, hcz34_7, hcz34_8, hcz34_9, hcz34_10, hcz34_11, hfz34_0, hfz34_1, hfz34_2, hfz34_3, hfz34_4, hfz34_5, hfz34_6, hfz34_7, hfz34_8, hfz34_9, hfz34_10, hfz34_11⟩ := c12 BK355) | ((with_reducible refine gate_builtin (b := .append) (xs := #[.tmp 39, .tmp 41]) rfl ?_); at_builtin; refine Kd.S_append k104 (w0 := w) w.heap.size rfl (.tmp 39) (.tmp 41) 37 104 (.agg #[(.int .i64 0), (.int .i64 0), (.slice none 0 0), (.string ⟨#[]⟩), (.bool false), (.bool false), (.int .i64 0), (.slice none 0 0), (.string ⟨#[]⟩), (.bool false), (.int .i64 0), (.int .i64 0)]) 136 rfl Try.underlying37 info104 rfl (by decide) (by omega) u3 x3_1 (⟨(rd_T104 l0_6 x4_1).f0, (rd_T104 l0_6 x4_1).f1, t356, (rd_T104 l0_6 x4_1).f3, (rd_T104 l0_6 x4_1).f4, (rd_T104 l0_6 x4_1).f5, (rd_T104 l0_6 x4_1).f6, t359, (rd_T104 l0_6 x4_1).f8, (rd_T104 l0_6 x4_1).f9, (⟨(rd_T104 l0_6 x4_1).f10.f0, (rd_T104 l0_6 x4_1).f10.f1⟩ : S39)⟩ : S104) [.int .i64 ((rd_T104 l0_6 x4_1).f0), .int .i64 ((rd_T104 l0_6 x4_1).f1), .slice Ao28 t356.length co28, .string ((rd_T104 l0_6 x4_1).f3), .bool ((rd_T104 l0_6 x4_1).f4), .bool ((rd_T104 l0_6 x4_1).f5), .int .i64 ((rd_T104 l0_6 x4_1).f6), .slice Ao31 t359.length co31, .string ((rd_T104 l0_6 x4_1).f8), .bool ((rd_T104 l0_6 x4_1).f9), .int .i64 ((rd_T104 l0_6 x4_1).f10.f0), .int .i64 ((rd_T104 l0_6 x4_1).f10.f1)] (fun k_ => some k_ ≠ (.slice Ao9 t345.length co9 : Value).ownBlock ∧ some k_ ≠ (.slice Ao12 t348.length co12 : Value).ownBlock ∧ k_ ≠ gb355) (fun k_ => some k_ = (.slice Ao28 t356.length co28 : Value).ownBlock ∨ some k_ = (.slice Ao31 t359.length co31 : Value).ownBlock) rfl rfl ?aP (fun k_ hk_ => hk_.elim (fun h_ => ((Kd.R_mono (ok' := fun k_ => ((fun k_ => some k_ ≠ (.slice Ao9 t345.length co9 : Value).ownBlock ∧ some k_ ≠ (.slice Ao12 t348.length co12 : Value).ownBlock ∧ k_ ≠ gb355)) k_ ∧ some k_ ≠ (u3 : Value).ownBlock) (Kd.R_types (Kd.R_apart' (HO358.out) (Kd.S_typed HO_3.out) (by decide)) BK355.out (by decide)) (fun k_ hk => ⟨⟨hk.1.1.1, ⟨hk.1.1.2.1, hk.2⟩⟩, hk.1.2⟩))).1 k_ h_.symm) (fun h_ => ((Kd.R_mono (ok' := fun k_ => ((fun k_ => some k_ ≠ (.slice Ao9 t345.length co9 : Value).ownBlock ∧ some k_ ≠ (.slice Ao12 t348.length co12 : Value).ownBlock ∧ k_ ≠ gb355)) k_ ∧ some k_ ≠ (u3 : Value).ownBlock) (Kd.R_types (Kd.R_apart' (HO361.out) (Kd.S_typed HO_3.out) (by decide)) BK355.out (by decide)) (fun k_ hk => ⟨⟨hk.1.1.1, ⟨hk.1.1.2.1, hk.2⟩⟩, hk.1.2⟩))).1 k_ h_.symm)) ?aF ?aO ?aB ?aS ?aL ?_; (case aP => exact k104_mkM _ _ _ (⟨(rd_T104 l0_6 x4_1).f0, (rd_T104 l0_6 x4_1).f1, t356, (rd_T104 l0_6 x4_1).f3, (rd_T104 l0_6 x4_1).f4, (rd_T104 l0_6 x4_1).f5, (rd_T104 l0_6 x4_1).f6, t359, (rd_T104 l0_6 x4_1).f8, (rd_T104 l0_6 x4_1).f9, (⟨(rd_T104 l0_6 x4_1).f10.f0, (rd_T104 l0_6 x4_1).f10.f1⟩ : S39)⟩ : S104) (Kd.R_mono (Kd.R_tight rfl (Kd.R_mono (ok' := fun k_ => ((fun k_ => some k_ ≠ (.slice Ao9 t345.length co9 : Value).ownBlock ∧ some k_ ≠ (.slice Ao12 t348.length co12 : Value).ownBlock ∧ k_ ≠ gb355)) k_ ∧ some k_ ≠ (u3 : Value).ownBlock) (Kd.R_types (Kd.R_apart' (HO358.out) (Kd.S_typed HO_3.out) (by decide)) BK355.out (by decide)) (fun k_ hk => ⟨⟨hk.1.1.1, ⟨hk.1.1.2.1, hk.2⟩⟩, hk.1.2⟩))) (fun _ h_ => Or.inl h_)) (Kd.R_mono (Kd.R_tight rfl (Kd.R_mono (ok' := fun k_ => ((fun k_ => some k_ ≠ (.slice Ao9 t345.length co9 : Value).ownBlock ∧ some k_ ≠ (.slice Ao12 t348.length co12 : Value).ownBlock ∧ k_ ≠ gb355)) k_ ∧ some k_ ≠ (u3 : Value).ownBlock) (Kd.R_types (Kd.R_apart' (HO361.out) (Kd.S_typed HO_3.out) (by decide)) BK355.out (by decide)) (fun k_ hk => ⟨⟨hk.1.1.1, ⟨hk.1.1.2.1, hk.2⟩⟩, hk.1.2⟩))) (fun _ h_ => Or.inr (h_))) (fun k_ h_ h2_ => by have h3_ := HO358.out.1 k_ h_; have h4_ := HO361.out.1 k_ h2_; first | exact h3_ h2_.symm | exact h3_.1 h2_.symm | exact h3_.2 h2_.symm | exact h3_.1.1 h2_.symm | exact h3_.1.2 h2_.symm | exact h3_.2.1 h2_.symm | exact h3_.2.2 h2_.symm | exact h3_.1.1.1 h2_.symm | exact h3_.1.1.2 h2_.symm | exact h3_.1.2.1 h2_.symm | exact h3_.1.2.2 h2_.symm | exact h3_.2.1.1 h2_.symm | exact h3_.2.1.2 h2_.symm | exact h3_.2.2.1 h2_.symm | exact h3_.2.2.2 h2_.symm | exact h3_.1.1.1.1 h2_.symm | exact h3_.1.1.1.2 h2_.symm | exact h3_.1.1.2.1 h2_.symm | exact h3_.1.1.2.2 h2_.symm | exact h3_.1.2.1.1 h2_.symm | exact h3_.1.2.1.2 h2_.symm | exact h3_.1.2.2.1 h2_.symm | exact h3_.1.2.2.2 h2_.symm | exact h3_.2.1.1.1 h2_.symm | exact h3_.2.1.1.2 h2_.symm | exact h3_.2.1.2.1 h2_.symm | exact h3_.2.1.2.2 h2_.symm | exact h3_.2.2.1.1 h2_.symm | exact h3_.2.2.1.2 h2_.symm | exact h3_.2.2.2.1 h2_.symm | exact h3_.2.2.2.2 h2_.symm | exact h4_ h_.symm | exact h4_.1 h_.symm | exact h4_.2 h_.symm | exact h4_.1.1 h_.symm | exact h4_.1.2 h_.symm | exact h4_.2.1 h_.symm | exact h4_.2.2 h_.symm | exact h4_.1.1.1 h_.symm | exact h4_.1.1.2 h_.symm | exact h4_.1.2.1 h_.symm | exact h4_.1.2.2 h_.symm | exact h4_.2.1.1 h_.symm | exact h4_.2.1.2 h_.symm | exact h4_.2.2.1 h_.symm | exact h4_.2.2.2 h_.symm | exact h4_.1.1.1.1 h_.symm | exact h4_.1.1.1.2 h_.symm | exact h4_.1.1.2.1 h_.symm | exact h4_.1.1.2.2 h_.symm | exact h4_.1.2.1.1 h_.symm | exact h4_.1.2.1.2 h_.symm | exact h4_.1.2.2.1 h_.symm | exact h4_.1.2.2.2 h_.symm | exact h4_.2.1.1.1 h_.symm | exact h4_.2.1.1.2 h_.symm | exact h4_.2.1.2.1 h_.symm | exact h4_.2.1.2.2 h_.symm | exact h4_.2.2.1.1 h_.symm | exact h4_.2.2.1.2 h_.symm | exact h4_.2.2.2.1 h_.symm | exact h4_.2.2.2.2 h_.symm)); (case aB => exact (zb HB)); (case aF => exact (fun k_ hk => ⟨Kd.fresh' (Kd.R_lt (zr HO_344001)) k_ hk, Kd.fresh' (Kd.R_lt (zr HO_344003)) k_ hk, Kd.freshB (zk BK355) k_ hk⟩)); (case aO => exact (by (with_reducible repeat (first | apply Kd.S_alloc | apply Kd.S_drewN | apply Kd.S_drew)); exact Kd.S_mono HO_3.out (fun k_ hk => ⟨⟨hk.1, ⟨hk.2.1, hk.2.2.2.2⟩⟩, fun e_ => e_.elim (fun h_ => hk.2.2.1 h_) (fun h_ => hk.2.2.2.1 h_)⟩))); (case aS => exact (below_size (zb HB))); (case aL => have := LMc20.out; omega); intro v363 w35 ho hb hg hat; rw [← Ny362.out] at ho; replace HO_344001 := Aside0.mk (Kd.R_over' (zr HO_344001) (Kd.S_typed (by (with_reducible repeat (first | apply Kd.S_alloc | apply Kd.S_drewN | apply Kd.S_drew)); exact HO_3.out)) (by decide) hg); replace HO_344003 := Aside0.mk (Kd.R_over' (zr HO_344003) (Kd.S_typed (by (with_reducible repeat (first | apply Kd.S_alloc | apply Kd.S_drewN | apply Kd.S_drew)); exact HO_3.out)) (by decide) hg); replace BK343 := Aside0.mk (blk_grown (zk BK343) hg (Kd.S_ne HO_3.out BK343.out (by decide))); replace BK344 := Aside0.mk (blk_grown (zk BK344) hg (Kd.S_ne HO_3.out BK344.out (by decide))); replace BK355 := Aside0.mk (blk_grown (zk BK355) hg (Kd.S_away HO_3.out (fun _ hk => hk.2.2.2.2))); replace HB := Aside0.mk (hb); have HO364 := Aside0.mk (ho); clear HO_3; clear HO358; clear HO361; clear ho hb hg hat))
      go_roundg k1
      case measure => have := HK1.out; omega
      case rel => exact ⟨(y362), (wrap64 (x4_1 + 1)), zs, H', ⟨by have := HK1.out; omega⟩, ⟨by (with_reducible repeat (first | apply Kd.S_alloc | apply Kd.S_drewN | apply Kd.S_drew)); exact Kd.S_mono HO364.out (fun _ hk => ⟨hk.1, hk.2.1⟩)⟩, ⟨zq (Kd.R_mono HO_344001.out (fun _ hk => hk.1))⟩, ⟨zq (Kd.R_mono HO_344003.out (fun _ hk => hk.1))⟩, ⟨by exact zk BK343⟩, ⟨by exact zk BK344⟩, ⟨zb HB⟩⟩
     ·rw [if_neg c20] at H
      exact absurd H (by simp)
    ·rw [if_neg c17] at H
     exact absurd H (by simp)
   ·skip
    have c16b0 := decide_eq_false c16
    clear c16
    obtain ⟨y365, hy365⟩ : ∃ y_ : List (S110), y_ = (([] : List (S110))) := ⟨_, rfl⟩
    replace H : (if y365.length + l0_9.length < 3518437208883 then (some (a0_0, t345, a0_2, t348, a0_4, a0_5, x3_1, a0_7, a0_8, (y365 ++ l0_9), a0_10)) else (none)) = some (r1, r2, r3, r4, r5, r6, r7, r8, r9, r10, r11) := by first | (rw [hy365]; with_reducible exact H) | (have H2_ := (Option.bind_some _ _).symm.trans H; rw [hy365]; with_reducible exact H2_) | (have H2_ := (Option.bind_some _ _).symm.trans H; with_reducible exact H2_) | with_reducible exact H | (rw [hy365]; exact H) | exact H
    have Ny365 := Aside0.mk hy365
    clear hy365
    replace H := sp H
    rcases H with ⟨c36, H⟩ | ⟨c36, H⟩
    ·skip
     have LMc36 := Aside0.mk c36
     clear c36
     obtain ⟨y368, hy368⟩ : ∃ y_ : List (S110), y_ = (y365 ++ l0_9) := ⟨_, rfl⟩
     replace H : (some (a0_0, t345, a0_2, t348, a0_4, a0_5, x3_1, a0_7, a0_8, y368, a0_10)) = some (r1, r2, r3, r4, r5, r6, r7, r8, r9, r10, r11) := by first | (rw [hy368]; with_reducible exact H) | (have H2_ := (Option.bind_some _ _).symm.trans H; rw [hy368]; with_reducible exact H2_) | (have H2_ := (Option.bind_some _ _).symm.trans H; with_reducible exact H2_) | with_reducible exact H | (rw [hy368]; exact H) | exact H
     have Ny368 := Aside0.mk hy368
     clear hy368
     simp only [Option.some.injEq, Prod.mk.injEq] at H
     obtain ⟨rfl, rfl, rfl, rfl, rfl, rfl, rfl, rfl, rfl, rfl, rfl⟩ := H
     have hnb37 := NB343_344.out
     have hnc37 := NB344_343.out
     obtain ⟨hcz38_0, hcz38_1, hcz38_2, hcz38_3, hcz38_4, hcz38_5, hcz38_6, hcz38_7, hcz38_8, hcz38_9, hcz38_10, hfz38_0, hfz38_1, hfz38_2, hfz38_3, hfz38_4, hfz38_5, hfz38_6, hfz38_7, hfz38_8, hfz38_9, hfz38_10⟩ := c11 BK343
     obtain ⟨Ao39, co39, eo39⟩ := Kd.S_slice HO_3.out
     subst eo39
     go_wp2_with (first | ((with_reducible refine gd 45 rfl ?_); refine Kd.R_lit k110 _ 110 ?hg (N := 45) ?hd (xs := ([] : List (S110))) (inner := []) (ok := fun _ => True) (okp := fun _ => True) ?hr ?hp (fun _ hk => hk) trivial (Below.refl _ _) (Nat.le_refl _) (by simp) ?_; (case hd => rfl); (case hg => rfl); (case hr => first | (go_simp; done) | (go_simp; rfl)); (case hp => exact (Reps.none _ _)); intro v366 w40 ho41 hb hg_ hnew_; clear hg_ hnew_; (first | rw [← Ny365.out] at ho41 | (simp only [Int.reduceToNat] at ho41; rw [← Ny365.out] at ho41)); replace HO_3 := Aside0.mk (Kd.S_below (by (with_reducible repeat (first | apply Kd.S_alloc | apply Kd.S_drewN | apply Kd.S_drew)); exact (Kd.S_mono (ztS (Kd.S_types HO_3.out BK343.out (by decide))) (fun _ h_ => h_.1))) hb); replace HO_344001 := Aside0.mk (Kd.R_below (((Kd.R_mono (ztR (Kd.R_types HO_344001.out BK343.out (by decide))) (fun _ h_ => h_.1)))) hb); replace HO_344003 := Aside0.mk (Kd.R_below (((Kd.R_mono (ztR (Kd.R_types HO_344003.out BK343.out (by decide))) (fun _ h_ => h_.1)))) hb); have HO367 := Aside0.mk (Kd.R_lower ho41 (below_size (zb HB))); replace BK343 := Aside0.mk (blk_below (g := gb343) (o := .cells #[.bool a0_0, .slice Ao9 t345.length co9, .int .i64 a0_2, .slice Ao12 t348.length co12, .int .i64 a0_4, .string a0_5, .slice Ao39 x3_1.length co39, .int .i64 a0_7, .int .i64 a0_8, .slice A0_9 l0_9.length c0_9, .bool a0_10] 42 (0, 0)) (zp BK343) hb); replace BK344 := Aside0.mk (blk_below (g := gb344) (o := .cells #[.bool false, .slice none 0 0, .int .i64 0, .slice none 0 0, .int .i64 0, .string (⟨#[]⟩ : ByteArray), .slice none 0 0, .int .i64 0, .int .i64 0, .slice none 0 0, .bool false] 42 (0, 0)) (zp BK344) hb); replace HB := Aside0.mk (below_step (zb HB) hb); clear hb ho41; obtain ⟨hcz42_0, hcz42_1, hcz42_2, hcz42_3, hcz42_4, hcz42_5, hcz42_6, hcz42_7, hcz42_8, hcz42_9, hcz42_10, hfz42_0, hfz42_1, hfz42_2, hfz42_3, hfz42_4, hfz42_5, hfz42_6, hfz42_7, hfz42_8, hfz42_9, hfz42_10⟩ := c11 BK343) | ((with_reducible refine gate_builtin (b := .append) (xs := #[.tmp 45, .tmp 47]) rfl ?_); at_builtin; refine Kd.R_append_rows k110 (w0 := w) w.heap.size rfl (.tmp 45) (.tmp 47) 40 110 (.agg #[(.int .i64 0), (.bool false), (.int .i64 0), (.string ⟨#[]⟩)]) 40 rfl Try.underlying40 info110 rfl (by decide) (by omega) v366 y365 l0_9 _ _ _ (fun _ => True) (fun _ => False) rfl rfl ?aO ?aR (fun _ _ h => h) (fun _ h => h.elim) ?aF ?aB ?aS ?aL ?_; (case aR => exact zc (Kd.C_below HR0_9.out HB.out)); (case aB => exact (zb HB)); (case aF => exact (fun _ _ => trivial)); (case aO => exact (zr HO367)); (case aS => exact (below_size (zb HB))); (case aL => have := LMc36.out; omega); intro v369 w43 ho hb hg hat; rw [← Ny368.out] at ho; replace HO_3 := Aside0.mk (Kd.S_over' (by (with_reducible repeat (first | apply Kd.S_alloc | apply Kd.S_drewN | apply Kd.S_drew)); exact HO_3.out) (Kd.R_typed (zr HO367)) (by decide) hg); replace HO_344001 := Aside0.mk (Kd.R_over' (zr HO_344001) (Kd.R_typed (zr HO367)) (by decide) hg); replace HO_344003 := Aside0.mk (Kd.R_over' (zr HO_344003) (Kd.R_typed (zr HO367)) (by decide) hg); replace BK343 := Aside0.mk (blk_grown (zk BK343) hg (Kd.R_ne HO367.out BK343.out (by decide))); replace BK344 := Aside0.mk (blk_grown (zk BK344) hg (Kd.R_ne HO367.out BK344.out (by decide))); replace HB := Aside0.mk (hb); have HO370 := Aside0.mk (ho); clear HO367; clear ho hb hg hat; obtain ⟨Ao44, co44, eo44⟩ := Kd.R_slice HO370.out; subst eo44; obtain ⟨hcz45_0, hcz45_1, hcz45_2, hcz45_3, hcz45_4, hcz45_5, hcz45_6, hcz45_7, hcz45_8, hcz45_9, hcz45_10, hfz45_0, hfz45_1, hfz45_2, hfz45_3, hfz45_4, hfz45_5, hfz45_6, hfz45_7, hfz45_8, hfz45_9, hfz45_10⟩ := c11 BK343; obtain ⟨hcz46_0, hcz46_1, hcz46_2, hcz46_3, hcz46_4, hcz46_5, hcz46_6, hcz46_7, hcz46_8, hcz46_9, hcz46_10, hfz46_0, hfz46_1, hfz46_2, hfz46_3, hfz46_4, hfz46_5, hfz46_6, hfz46_7, hfz46_8, hfz46_9, hfz46_10⟩ := c11 BK344))
     refine bodyPost_ret (results_cell_row rfl _ _ gb344 42 #[.bool a0_0, .slice Ao9 t345.length co9, .int .i64 a0_2, .slice Ao12 t348.length co12, .int .i64 a0_4, .string a0_5, .slice Ao39 x3_1.length co39, .int .i64 a0_7, .int .i64 a0_8, .slice Ao44 y368.length co44, .bool a0_10] (0, 0) _ rfl (zp BK344) Try.underlying42 rfl (by kernel_rfl)) rfl ?_
     exact ⟨_, _, _, _, ze, (Kd.R_mono (ztR (Kd.R_types (Kd.R_types HO_344001.out BK343.out (by decide)) BK344.out (by decide))) (fun _ hk => hk.1.1)), (Kd.R_mono (ztR (Kd.R_types (Kd.R_types HO_344003.out BK343.out (by decide)) BK344.out (by decide))) (fun _ hk => hk.1.1)), by (with_reducible repeat (first | apply Kd.S_alloc | apply Kd.S_drewN | apply Kd.S_drew)); exact Kd.S_mono (ztS (Kd.S_types (Kd.S_types HO_3.out BK343.out (by decide)) BK344.out (by decide))) (fun _ hk => ⟨hk.1.1.1, hk.1.1.2⟩), (Kd.R_mono (ztR (Kd.R_types (Kd.R_types HO370.out BK343.out (by decide)) BK344.out (by decide))) (fun _ hk => trivial)), zb HB⟩
    ·skip
     exact absurd H (by simp)

-- NOT PRINTED: function 47 (spec_EndLeave)

/-! ### impl_in: function 61 -/
-- thin
def impl_in.f (a0 : Int) (a1 : Int) (a2 : Int) : Option (Bool) := if a1 ≤ a0 then (some (decide (a0 ≤ a2))) else (some false)
set_option maxHeartbeats 8000000 in
set_option maxRecDepth 100000 in
theorem impl_in.calls (a0 : Int) (a1 : Int) (a2 : Int) (r : Bool) (w : World) (h : impl_in.f a0 a1 a2 = some r) :
  Calls Try.prog 61 #[.int .i64 a0, .int .i64 a1, .int .i64 a2] w fun e w' => e = .returned (.bool r) ∧ Drawn0 w w' := by
 have H : (if a1 ≤ a0 then (some (decide (a0 ≤ a2))) else (some false)) = some r := h
 clear h
 replace H := sp H
 rcases H with ⟨c4, H⟩ | ⟨c4, H⟩
 ·skip
  have c4b0 := decide_eq_true c4
  clear c4
  obtain rfl := Option.some.inj H
  go_enter Try.func61, Try.ntmps61
  go_wp2
  go_ret
  exact ⟨zs, by repeat (first | exact Drawn0.refl _ | apply Drawn0.step)⟩
 ·skip
  have c4b0 := decide_eq_false c4
  clear c4
  obtain rfl := Option.some.inj H
  go_enter Try.func61, Try.ntmps61
  go_wp2
  go_ret
  exact ⟨zs, by repeat (first | exact Drawn0.refl _ | apply Drawn0.step)⟩

-- NOT PRINTED: function 171 (bytealg_IndexByteString)

-- NOT PRINTED: function 167 (stringslite_IndexByte)

/-! ### strings_IndexByte: function 153 -/
-- by hand
def TryL.lays137_ren : Go.Shelf.Ren := ⟨fun | 137 => 153 | 217 => 167 | 266 => 171 | n => n, fun | 9 => 9 | 5 => 5 | 3 => 3 | n => n, fun | n => n⟩
theorem TryL.lays137 : Go.Proofs.Lays.n137 Try.prog TryL.lays137_ren := {
  mixed := by kernel_rfl
  f137 := Try.func153.trans (congrArg some (by kernel_rfl))
  f217 := Try.func167.trans (congrArg some (by kernel_rfl))
  f266 := Try.func171.trans (congrArg some (by kernel_rfl))
  t3 := Try.underlying3
  a3 := Try.isAgg3
  z3 := Try.sizeOf3
  v3 := Try.zeroValue3
  t5 := Try.underlying5
  a5 := Try.isAgg5
  z5 := Try.sizeOf5
  v5 := Try.zeroValue5
  t9 := Try.underlying9
  a9 := Try.isAgg9
  z9 := Try.sizeOf9
  v9 := Try.zeroValue9 }
/-- The place of the first byte that is a1; -1, if there is none. -/
def strings_IndexByte.f (a0 : ByteArray) (a1 : Int) : Option (Int) := some (Lib.indexByte a0.data.toList a1.toNat.toUInt8)
theorem strings_IndexByte.calls (a0 : ByteArray) (a1 : Int) (r : Int) (w : World) (h : strings_IndexByte.f a0 a1 = some r) :
    Calls Try.prog 153 #[.string a0, .int .u8 a1] w fun e w' => e = .returned (.int .i64 r) ∧ Drawn0 w w' := by
  simp only [strings_IndexByte.f, Option.some.injEq] at h
  subst h
  refine (Go.Proofs.Any.strings_IndexByte TryL.lays137 a0 a1 w).mono ?_
  rintro e w' ⟨rfl, rfl⟩
  exact ⟨rfl, Drawn0.refl _⟩

/-! ### impl_WordOk: function 122 -/
-- thin
def impl_WordOk.l0 : Nat → ByteArray → Int → Int → Option (Bool)
 | 0, _, _, _ => none
 | k + 1, x0, x5, x6 => if x6 < x5 then (if 0 ≤ x6 then (if x6 < (x0.size : Int) then ((strings_IndexByte.f (⟨#[101, 116, 97, 111, 105, 110, 115, 114, 104, 108, 48, 49, 50, 51, 52, 53, 54, 55, 56, 57, 100, 99, 117, 109, 102, 112, 103, 119, 121, 98, 118, 107, 120, 106, 113, 122, 58, 47, 45]⟩ : ByteArray) (bt x0 x6)).bind fun t393 => (if t393 < 0 then (some false) else (impl_WordOk.l0 k x0 x5 (wrap64 (x6 + 1))))) else (none)) else (none)) else (some (decide ((x0.size : Int) ≤ 16)))
def impl_WordOk.f (k : Nat) (a0 : ByteArray) : Option (Bool) := impl_WordOk.l0 k a0 (a0.size : Int) 0
theorem impl_WordOk.mono_l : ∀ k, (∀ y0 y1 y2, LeO (impl_WordOk.l0 k y0 y1 y2) (impl_WordOk.l0 (k + 1) y0 y1 y2))
 | 0 => fun _ _ _ r h => by simp [impl_WordOk.l0] at h
 | k + 1 => by
  have ih0 := impl_WordOk.mono_l k
  ·intro y0 y1 y2
   unfold impl_WordOk.l0
   exact zm
theorem impl_WordOk.mono : ∀ a0 k, LeO (impl_WordOk.f k a0) (impl_WordOk.f (k + 1) a0) := by
 intro a0 k
 have ih0 := impl_WordOk.mono_l k
 unfold impl_WordOk.f
 exact zm
set_option maxHeartbeats 8000000 in
set_option maxRecDepth 100000 in
theorem impl_WordOk.calls (k : Nat) (a0 : ByteArray) (r : Bool) (w : World) (h : impl_WordOk.f k a0 = some r) :
  Calls Try.prog 122 #[.string a0] w fun e w' => e = .returned (.bool r) ∧ Drawn0 w w' := by
 have H : (impl_WordOk.l0 k a0 (a0.size : Int) 0) = some r := h
 clear h
 have H' := Aside0.mk H
 clear H
 go_enter Try.func122, Try.ntmps122
 go_wp2
 go_loopg [6] k (fun kq v6 w' => ∃ (x6_1 : Int), v6 = .int .i64 x6_1 ∧ Aside0 (impl_WordOk.l0 kq a0 (a0.size : Int) x6_1 = some r) ∧ Aside0 (kq ≤ k) ∧ Drawn0 w w')
 case atStart => exact ⟨(0), zs, H', ⟨Nat.le_refl _⟩, by repeat (first | exact Drawn0.refl _ | apply Drawn0.step)⟩
 case round =>
  clear H'
  try clear c1
  obtain ⟨x6_1, rfl, HA, HK1, ⟨m1, rfl⟩⟩ := hrel
  cases gk with
  | zero => exact absurd HA.out (by simp [impl_WordOk.l0])
  | succ k1 =>
   have H := HA.out
   clear HA
   simp only [impl_WordOk.l0] at H
   replace H := sp H
   rcases H with ⟨c2, H⟩ | ⟨c2, H⟩
   ·skip
    have c2b0 := decide_eq_true c2
    clear c2
    by_cases c3 : 0 ≤ x6_1
    ·rw [if_pos c3] at H
     have c3b0 := decide_eq_true c3
     clear c3
     by_cases c4 : x6_1 < (a0.size : Int)
     ·rw [if_pos c4] at H
      have c4b0 := decide_eq_true c4
      clear c4
      obtain ⟨t393, A6, H⟩ := ob H
      (try dsimp only at H)
      by_cases c7 : t393 < 0
      ·rw [if_pos c7] at H
       have c7b0 := decide_eq_true c7
       clear c7
       obtain rfl := Option.some.inj H
       have p5 : 0 ≤ (x6_1 : Int) := of_decide_eq_true za
       have q5 : x6_1 < (a0.size : Int) := of_decide_eq_true za
       have hx5 := bt_at a0 x6_1
       replace p5 := eq_true p5
       replace q5 := eq_true q5
       go_wp2_with (first | ((with_reducible refine gq 153 rfl ?_); refine gl (some 12) Try.func153 #[.string (⟨#[101, 116, 97, 111, 105, 110, 115, 114, 104, 108, 48, 49, 50, 51, 52, 53, 54, 55, 56, 57, 100, 99, 117, 109, 102, 112, 103, 119, 121, 98, 118, 107, 120, 106, 113, 122, 58, 47, 45]⟩ : ByteArray), .int .u8 (bt a0 x6_1)] ?_; (with_reducible refine (strings_IndexByte.calls (⟨#[101, 116, 97, 111, 105, 110, 115, 114, 104, 108, 48, 49, 50, 51, 52, 53, 54, 55, 56, 57, 100, 99, 117, 109, 102, 112, 103, 119, 121, 98, 118, 107, 120, 106, 113, 122, 58, 47, 45]⟩ : ByteArray) (bt a0 x6_1) t393 _ A6.out).mono ?_); rintro e w' ⟨rfl, ⟨nd, rfl⟩⟩; refine ⟨_, rfl, ?_⟩))
       go_ret
       exact ⟨zs, by repeat (first | exact Drawn0.refl _ | apply Drawn0.step)⟩
      ·rw [if_neg c7] at H
       have c7b0 := decide_eq_false c7
       clear c7
       have H' := Aside0.mk H
       clear H
       have p5 : 0 ≤ (x6_1 : Int) := of_decide_eq_true za
       have q5 : x6_1 < (a0.size : Int) := of_decide_eq_true za
       have hx5 := bt_at a0 x6_1
       replace p5 := eq_true p5
       replace q5 := eq_true q5
       go_wp2_with (first | ((with_reducible refine gq 153 rfl ?_); refine gl (some 12) Try.func153 #[.string (⟨#[101, 116, 97, 111, 105, 110, 115, 114, 104, 108, 48, 49, 50, 51, 52, 53, 54, 55, 56, 57, 100, 99, 117, 109, 102, 112, 103, 119, 121, 98, 118, 107, 120, 106, 113, 122, 58, 47, 45]⟩ : ByteArray), .int .u8 (bt a0 x6_1)] ?_; (with_reducible refine (strings_IndexByte.calls (⟨#[101, 116, 97, 111, 105, 110, 115, 114, 104, 108, 48, 49, 50, 51, 52, 53, 54, 55, 56, 57, 100, 99, 117, 109, 102, 112, 103, 119, 121, 98, 118, 107, 120, 106, 113, 122, 58, 47, 45]⟩ : ByteArray) (bt a0 x6_1) t393 _ A6.out).mono ?_); rintro e w' ⟨rfl, ⟨nd, rfl⟩⟩; refine ⟨_, rfl, ?_⟩))
       go_roundg k1
       case measure => have := HK1.out; omega
       case rel => exact ⟨(wrap64 (x6_1 + 1)), zs, H', ⟨by have := HK1.out; omega⟩, by repeat (first | exact Drawn0.refl _ | apply Drawn0.step)⟩
     ·rw [if_neg c4] at H
      exact absurd H (by simp)
    ·rw [if_neg c3] at H
     exact absurd H (by simp)
   ·skip
    have c2b0 := decide_eq_false c2
    clear c2
    obtain rfl := Option.some.inj H
    go_wp2
    go_ret
    exact ⟨zs, by repeat (first | exact Drawn0.refl _ | apply Drawn0.step)⟩

/-! ### impl_FieldOk: function 64 -/
-- thin
def impl_FieldOk.f (k : Nat) (a0_0 : ByteArray) (a0_1 : ByteArray) (a0_2 : Bool) : Option (Bool) := (impl_WordOk.f k a0_0).bind fun t395 => (if t395 = true then ((impl_WordOk.f k a0_1).bind fun t396 => (if t396 = true then (some (a0_0.toList != ([] : List UInt8))) else (some false))) else (some false))
theorem impl_FieldOk.mono : ∀ a0 a1 a2 k, LeO (impl_FieldOk.f k a0 a1 a2) (impl_FieldOk.f (k + 1) a0 a1 a2) := by
 intro a0 a1 a2 k
 unfold impl_FieldOk.f
 have m0 := @impl_WordOk.mono
 exact zm
set_option maxHeartbeats 8000000 in
set_option maxRecDepth 100000 in
theorem impl_FieldOk.calls (k : Nat) (a0_0 : ByteArray) (a0_1 : ByteArray) (a0_2 : Bool) (r : Bool) (w : World) (h : impl_FieldOk.f k a0_0 a0_1 a0_2 = some r) :
  Calls Try.prog 64 #[.agg #[.string a0_0, .string a0_1, .bool a0_2]] w fun e w' => e = .returned (.bool r) ∧ Below w.heap.size w w' := by
 have hu88 := Try.underlying88
 have HB := Aside0.mk (Below.refl w.heap.size w)
 have H : ((impl_WordOk.f k a0_0).bind fun t395 => (if t395 = true then ((impl_WordOk.f k a0_1).bind fun t396 => (if t396 = true then (some (a0_0.toList != ([] : List UInt8))) else (some false))) else (some false))) = some r := h
 clear h
 obtain ⟨t395, A2, H⟩ := ob H
 (try dsimp only at H)
 by_cases c3 : t395 = true
 ·subst c3
  rw [if_pos rfl] at H
  obtain ⟨t396, A4, H⟩ := ob H
  (try dsimp only at H)
  by_cases c5 : t396 = true
  ·subst c5
   rw [if_pos rfl] at H
   obtain rfl := Option.some.inj H
   go_enter Try.func64, Try.ntmps64
   go_wp2_with (first | ((with_reducible refine gd 1 rfl ?_); refine bx (N := 1) (cs := #[.string a0_0, .string a0_1, .bool a0_2]) (t := 88) ?_; intro gb394 hg w6 hbox hb; have BK394 := Aside0.mk (hbox); have GW394 := gw HB hg; have GE394 := GW394; replace HB := Aside0.mk (below_step (zb HB) hb); clear hb hbox hg; obtain ⟨hcz7_0, hcz7_1, hcz7_2, hfz7_0, hfz7_1, hfz7_2⟩ := c3 BK394) | ((with_reducible refine gq 122 rfl ?_); refine gl (some 5) Try.func122 #[.string a0_0] ?_; (with_reducible refine (impl_WordOk.calls k a0_0 true _ A2.out).mono ?_); rintro e w' ⟨rfl, ⟨nd, rfl⟩⟩; refine ⟨_, rfl, ?_⟩) | (go_at_call 122; (with_reducible refine (impl_WordOk.calls k a0_1 true _ A4.out).mono ?_); rintro e w' ⟨rfl, ⟨nd, rfl⟩⟩))
   go_ret
   exact ⟨ze, zb HB⟩
  ·replace c5 := Bool.eq_false_iff.mpr c5
   subst c5
   rw [if_neg (show ¬ (false = true) by decide)] at H
   obtain rfl := Option.some.inj H
   go_enter Try.func64, Try.ntmps64
   go_wp2_with (first | ((with_reducible refine gd 1 rfl ?_); refine bx (N := 1) (cs := #[.string a0_0, .string a0_1, .bool a0_2]) (t := 88) ?_; intro gb394 hg w8 hbox hb; have BK394 := Aside0.mk (hbox); have GW394 := gw HB hg; have GE394 := GW394; replace HB := Aside0.mk (below_step (zb HB) hb); clear hb hbox hg; obtain ⟨hcz9_0, hcz9_1, hcz9_2, hfz9_0, hfz9_1, hfz9_2⟩ := c3 BK394) | ((with_reducible refine gq 122 rfl ?_); refine gl (some 5) Try.func122 #[.string a0_0] ?_; (with_reducible refine (impl_WordOk.calls k a0_0 true _ A2.out).mono ?_); rintro e w' ⟨rfl, ⟨nd, rfl⟩⟩; refine ⟨_, rfl, ?_⟩) | (go_at_call 122; (with_reducible refine (impl_WordOk.calls k a0_1 false _ A4.out).mono ?_); rintro e w' ⟨rfl, ⟨nd, rfl⟩⟩))
   go_ret
   exact ⟨ze, zb HB⟩
 ·replace c3 := Bool.eq_false_iff.mpr c3
  subst c3
  rw [if_neg (show ¬ (false = true) by decide)] at H
  obtain rfl := Option.some.inj H
  go_enter Try.func64, Try.ntmps64
  go_wp2_with (first | ((with_reducible refine gd 1 rfl ?_); refine bx (N := 1) (cs := #[.string a0_0, .string a0_1, .bool a0_2]) (t := 88) ?_; intro gb394 hg w10 hbox hb; have BK394 := Aside0.mk (hbox); have GW394 := gw HB hg; have GE394 := GW394; replace HB := Aside0.mk (below_step (zb HB) hb); clear hb hbox hg; obtain ⟨hcz11_0, hcz11_1, hcz11_2, hfz11_0, hfz11_1, hfz11_2⟩ := c3 BK394) | ((with_reducible refine gq 122 rfl ?_); refine gl (some 5) Try.func122 #[.string a0_0] ?_; (with_reducible refine (impl_WordOk.calls k a0_0 false _ A2.out).mono ?_); rintro e w' ⟨rfl, ⟨nd, rfl⟩⟩; refine ⟨_, rfl, ?_⟩))
  go_ret
  exact ⟨ze, zb HB⟩

/-! ### impl_TableOk_1: function 63 -/
-- thin
def impl_TableOk_1.f (k : Nat) (a0_0 : ByteArray) (a0_1 : ByteArray) (a0_2 : Bool) : Option (Bool) := (impl_FieldOk.f k a0_0 a0_1 a0_2).bind fun t398 => (if t398 = true then (some a0_2) else (some true))
theorem impl_TableOk_1.mono : ∀ a0 a1 a2 k, LeO (impl_TableOk_1.f k a0 a1 a2) (impl_TableOk_1.f (k + 1) a0 a1 a2) := by
 intro a0 a1 a2 k
 unfold impl_TableOk_1.f
 have m0 := @impl_FieldOk.mono
 exact zm
set_option maxHeartbeats 8000000 in
set_option maxRecDepth 100000 in
theorem impl_TableOk_1.calls (k : Nat) (a0_0 : ByteArray) (a0_1 : ByteArray) (a0_2 : Bool) (r : Bool) (w : World) (h : impl_TableOk_1.f k a0_0 a0_1 a0_2 = some r) :
  Calls Try.prog 63 #[.agg #[.string a0_0, .string a0_1, .bool a0_2]] w fun e w' => e = .returned (.bool r) ∧ Below w.heap.size w w' := by
 have hu88 := Try.underlying88
 have HB := Aside0.mk (Below.refl w.heap.size w)
 have H : ((impl_FieldOk.f k a0_0 a0_1 a0_2).bind fun t398 => (if t398 = true then (some a0_2) else (some true))) = some r := h
 clear h
 obtain ⟨t398, A2, H⟩ := ob H
 (try dsimp only at H)
 by_cases c3 : t398 = true
 ·subst c3
  rw [if_pos rfl] at H
  obtain rfl := Option.some.inj H
  go_enter Try.func63, Try.ntmps63
  go_wp2_with (first | ((with_reducible refine gd 1 rfl ?_); refine bx (N := 1) (cs := #[.string a0_0, .string a0_1, .bool a0_2]) (t := 88) ?_; intro gb397 hg w4 hbox hb; have BK397 := Aside0.mk (hbox); have GW397 := gw HB hg; have GE397 := GW397; replace HB := Aside0.mk (below_step (zb HB) hb); clear hb hbox hg; obtain ⟨hcz5_0, hcz5_1, hcz5_2, hfz5_0, hfz5_1, hfz5_2⟩ := c3 BK397) | ((with_reducible refine gq 64 rfl ?_); refine gl (some 4) Try.func64 #[.agg #[.string a0_0, .string a0_1, .bool a0_2]] ?_; (with_reducible refine (impl_FieldOk.calls k a0_0 a0_1 a0_2 true _ A2.out).mono ?_); rintro e w6 ⟨rfl, hb⟩; refine ⟨_, rfl, ?_⟩; replace BK397 := kb BK397 hb; replace HB := Aside0.mk (below_step (zb HB) hb); (try clear hb); obtain ⟨hcz7_0, hcz7_1, hcz7_2, hfz7_0, hfz7_1, hfz7_2⟩ := c3 BK397))
  go_ret
  exact ⟨ze, zb HB⟩
 ·replace c3 := Bool.eq_false_iff.mpr c3
  subst c3
  rw [if_neg (show ¬ (false = true) by decide)] at H
  obtain rfl := Option.some.inj H
  go_enter Try.func63, Try.ntmps63
  go_wp2_with (first | ((with_reducible refine gd 1 rfl ?_); refine bx (N := 1) (cs := #[.string a0_0, .string a0_1, .bool a0_2]) (t := 88) ?_; intro gb397 hg w8 hbox hb; have BK397 := Aside0.mk (hbox); have GW397 := gw HB hg; have GE397 := GW397; replace HB := Aside0.mk (below_step (zb HB) hb); clear hb hbox hg; obtain ⟨hcz9_0, hcz9_1, hcz9_2, hfz9_0, hfz9_1, hfz9_2⟩ := c3 BK397) | ((with_reducible refine gq 64 rfl ?_); refine gl (some 4) Try.func64 #[.agg #[.string a0_0, .string a0_1, .bool a0_2]] ?_; (with_reducible refine (impl_FieldOk.calls k a0_0 a0_1 a0_2 false _ A2.out).mono ?_); rintro e w10 ⟨rfl, hb⟩; refine ⟨_, rfl, ?_⟩; replace BK397 := kb BK397 hb; replace HB := Aside0.mk (below_step (zb HB) hb); (try clear hb)))
  go_ret
  exact ⟨ze, zb HB⟩

/-! ### impl_HeadOk_1: function 109 -/
-- thin
def impl_HeadOk_1.f (k : Nat) (a0_0 : ByteArray) (a0_1 : ByteArray) (a0_2 : Bool) : Option (Bool) := (impl_FieldOk.f k a0_0 a0_1 a0_2).bind fun t400 => (some (!t400))
theorem impl_HeadOk_1.mono : ∀ a0 a1 a2 k, LeO (impl_HeadOk_1.f k a0 a1 a2) (impl_HeadOk_1.f (k + 1) a0 a1 a2) := by
 intro a0 a1 a2 k
 unfold impl_HeadOk_1.f
 have m0 := @impl_FieldOk.mono
 exact zm
set_option maxHeartbeats 8000000 in
set_option maxRecDepth 100000 in
theorem impl_HeadOk_1.calls (k : Nat) (a0_0 : ByteArray) (a0_1 : ByteArray) (a0_2 : Bool) (r : Bool) (w : World) (h : impl_HeadOk_1.f k a0_0 a0_1 a0_2 = some r) :
  Calls Try.prog 109 #[.agg #[.string a0_0, .string a0_1, .bool a0_2]] w fun e w' => e = .returned (.bool r) ∧ Below w.heap.size w w' := by
 have hu88 := Try.underlying88
 have HB := Aside0.mk (Below.refl w.heap.size w)
 have H : ((impl_FieldOk.f k a0_0 a0_1 a0_2).bind fun t400 => (some (!t400))) = some r := h
 clear h
 obtain ⟨t400, A2, H⟩ := ob H
 (try dsimp only at H)
 obtain rfl := Option.some.inj H
 go_enter Try.func109, Try.ntmps109
 go_wp2_with (first | ((with_reducible refine gd 1 rfl ?_); refine bx (N := 1) (cs := #[.string a0_0, .string a0_1, .bool a0_2]) (t := 88) ?_; intro gb399 hg w3 hbox hb; have BK399 := Aside0.mk (hbox); have GW399 := gw HB hg; have GE399 := GW399; replace HB := Aside0.mk (below_step (zb HB) hb); clear hb hbox hg; obtain ⟨hcz4_0, hcz4_1, hcz4_2, hfz4_0, hfz4_1, hfz4_2⟩ := c3 BK399) | ((with_reducible refine gq 64 rfl ?_); refine gl (some 4) Try.func64 #[.agg #[.string a0_0, .string a0_1, .bool a0_2]] ?_; (with_reducible refine (impl_FieldOk.calls k a0_0 a0_1 a0_2 t400 _ A2.out).mono ?_); rintro e w5 ⟨rfl, hb⟩; refine ⟨_, rfl, ?_⟩; replace BK399 := kb BK399 hb; replace HB := Aside0.mk (below_step (zb HB) hb); (try clear hb)))
 go_ret
 exact ⟨ze, zb HB⟩

/-! ### IndexFunc_Field: function 121 -/
-- by hand
theorem load_list (P : Program) (W : World) (a : Addr) (cs : List Value) (k : Nat) (hk : cs.length = k) (h : ∀ j v, cs[j]? = some v → W.cell? (a.add j) = some v) :
    Sem.run P (loadCellsFrom a 0 k #[]) W = .ok cs.toArray W := by
  have := run_loadCells_list (P := P) (w := W) a cs h
  rw [hk] at this
  exact this
/-- The first place, from i on, at which p says yes; -1, if there is none. -/
def idxFrom (p : S88 → Option Bool) : List (S88) → Int → Option Int
  | [], _ => some (-1)
  | x :: l, i => (p x).bind fun b => if b then some i else idxFrom p l (i + 1)
/-- What a predicate's value does when it is called. -/
def PredIs (P : Program) (g : Nat) (lb : Array Value) (p : S88 → Option Bool) (w : World) : Prop :=
  ∀ (W : World) (x : S88) (b : Bool), Below w.heap.size w W → p x = some b → Calls P g (#[.agg #[.string x.f0, .string x.f1, .bool x.f2]] ++ lb) W fun e w' => e = .returned (.bool b) ∧ Below w.heap.size w w'
set_option maxHeartbeats 4000000 in
set_option maxRecDepth 100000 in
theorem IndexFunc_calls (g : Nat) (lb : Array Value) (p : S88 → Option Bool) (eg : ∀ args w, (callFunc g args).run Try.prog w = .ok (.enter g args) w) (A0 : Option Addr) (c0 : Nat) (l0 : List (S88)) (r : Int) (w : World) (hr0 : Kd.C k88 w A0 l0.length l0) (hc0 : l0.length ≤ c0)
    (hp : PredIs Try.prog g lb p w) (h : idxFrom p l0 0 = some r) (hl : l0.length ≤ 1000000000) :
    Calls Try.prog 121 #[.slice A0 l0.length c0, .func (.func g) #[] lb] w fun e w' => e = .returned (.int .i64 r) ∧ Below w.heap.size w w' := by
  have HR0 := Aside0.mk hr0
  have HP := Aside0.mk hp
  have H := Aside0.mk h
  clear hr0 hp h
  go_enter Try.func121, Try.ntmps121
  go_wp2
  go_loopg [5, 8] (l0.length) (fun kq v5 v8 w' => ∃ i : Nat, v8 = .int .i64 i ∧ Aside0 (kq + i = l0.length) ∧ Aside0 (idxFrom p (l0.drop i) i = some r) ∧ Aside0 (Below w.heap.size w w'))
  case atStart => exact ⟨0, rfl, ⟨by omega⟩, ⟨by simpa using H.out⟩, ⟨Below.refl _ _⟩⟩
  case round =>
    obtain ⟨i, rfl, HK, HX, HB⟩ := hrel
    have hk := HK.out
    by_cases hj : i < l0.length
    · have h0 : (0 : Int) ≤ (i : Int) := by omega
      have h1 : (i : Int) < (l0.length : Int) := by omega
      obtain ⟨x, hx⟩ : ∃ x, l0[i]? = some x := ⟨_, List.getElem?_eq_getElem hj⟩
      have hdrop : l0.drop i = x :: l0.drop (i + 1) := by
        rw [List.drop_eq_getElem_cons hj]
        rw [List.getElem?_eq_getElem hj] at hx
        rw [Option.some.inj hx]
      obtain ⟨_, _, hrd⟩ := Kd.C_below HR0.out HB.out
      obtain ⟨ad, e1, hcell⟩ := hrd (by omega)
      obtain ⟨c, hc1, hc2, hc3⟩ := hcell i x hx
      have hc4 := k88_open hc2
      subst hc4
      subst e1
      have q0 : wr.cell? (ad.add (i * 3)) = some (.string x.f0) := by have h9 := hc3 0 _ rfl; exact h9
      have q1 : wr.cell? ⟨(ad.add (i * 3)).block, (ad.add (i * 3)).off + 1, none⟩ = some (.string x.f1) := by have h9 := hc3 1 _ rfl; rw [← Go.Addr.add_add] at h9; exact h9
      have q2 : wr.cell? ⟨(ad.add (i * 3)).block, (ad.add (i * 3)).off + 2, none⟩ = some (.bool x.f2) := by have h9 := hc3 2 _ rfl; rw [← Go.Addr.add_add] at h9; exact h9
      have hX := HX.out
      rw [hdrop, idxFrom] at hX
      obtain ⟨b, hb1, hb2⟩ := Option.bind_eq_some_iff.1 hX
      have hcall := HP.out wr x b HB.out hb1
      have HX2 := Aside0.mk hb2
      cases gk with
      | zero => omega
      | succ k1 =>
      clear hk hX hb2 hrd hcell hc1 hc2 hc3 hdrop
      cases b with
      | true =>
        go_wp2_with (go_at_fn g; refine hcall.mono ?_; rintro e w' ⟨rfl, hb'⟩)
        go_ret
        have h9 : some (i : Int) = some r := by simpa using HX2.out
        exact ⟨by rw [← Option.some.inj h9]; rfl, hb'⟩
      | false =>
        go_wp2_with (go_at_fn g; refine hcall.mono ?_; rintro e w' ⟨rfl, hb'⟩)
        go_roundg k1
        case measure => have := HK.out; omega
        case rel =>
          refine ⟨i + 1, by go_num, ⟨by have := HK.out; omega⟩, ⟨?_⟩, ⟨hb'⟩⟩
          have h9 := HX2.out
          rw [if_neg (by decide)] at h9
          rw [show ((i + 1 : Nat) : Int) = (i : Int) + 1 by omega]
          exact h9
    · have e : i = l0.length := by omega
      have hltz : ¬ (i : Int) < (l0.length : Int) := by omega
      clear hk hj
      have HE := Aside0.mk e
      clear e
      go_wp2
      go_ret
      have e := HE.out
      subst e
      have hX := HX.out
      rw [List.drop_length, idxFrom] at hX
      exact ⟨by rw [← Option.some.inj hX]; rfl, HB.out⟩

/-! ### ContainsFunc_Field: function 62 -/
-- by hand
set_option maxHeartbeats 4000000 in
set_option maxRecDepth 100000 in
theorem ContainsFunc_calls (g : Nat) (lb : Array Value) (p : S88 → Option Bool) (eg : ∀ args w, (callFunc g args).run Try.prog w = .ok (.enter g args) w) (A0 : Option Addr) (c0 : Nat) (l0 : List (S88)) (r : Int) (w : World) (hr0 : Kd.C k88 w A0 l0.length l0) (hc0 : l0.length ≤ c0)
    (hp : PredIs Try.prog g lb p w) (h : idxFrom p l0 0 = some r) (hl : l0.length ≤ 1000000000) :
    Calls Try.prog 62 #[.slice A0 l0.length c0, .func (.func g) #[] lb] w fun e w' => e = .returned (.bool (decide (0 ≤ r))) ∧ Below w.heap.size w w' := by
  go_enter Try.func62, Try.ntmps62
  go_wp2_with (go_at_call 121; refine (IndexFunc_calls g lb p eg A0 c0 l0 r _ hr0 hc0 hp h hl).mono ?_; rintro e w' ⟨rfl, hb'⟩)
  go_ret
  exact ⟨rfl, hb'⟩
/-- What function g says of a field. -/
def ContainsFunc_Field.p (k : Nat) (g : Nat) (x : S88) : Option Bool := if g = 63 then impl_TableOk_1.f k x.f0 x.f1 x.f2 else if g = 109 then impl_HeadOk_1.f k x.f0 x.f1 x.f2 else none
def ContainsFunc_Field.known (g : Nat) : Prop := g = 63 ∨ g = 109 ∨ False
instance (g : Nat) : Decidable (ContainsFunc_Field.known g) := by unfold ContainsFunc_Field.known; infer_instance
def ContainsFunc_Field.f (k : Nat) (l0 : List (S88)) (a1 : Nat) : Option Bool :=
  if l0.length ≤ 1000000000 ∧ ContainsFunc_Field.known a1 then (idxFrom (ContainsFunc_Field.p k a1) l0 0).bind fun r => some (decide (0 ≤ r)) else none
theorem idxFrom_mono {p q : S88 → Option Bool} (hpq : ∀ x, LeO (p x) (q x)) : ∀ (l : List (S88)) (i : Int), LeO (idxFrom p l i) (idxFrom q l i)
  | [], _ => fun r h => h
  | x :: l, i => by
    intro r h
    unfold idxFrom at h ⊢
    obtain ⟨b, hb, hr⟩ := Option.bind_eq_some_iff.1 h
    rw [hpq x b hb]
    simp only [Option.bind_some]
    cases b with
    | true => exact hr
    | false => exact idxFrom_mono hpq l (i + 1) r hr
theorem ContainsFunc_Field.p_mono (k g : Nat) (x : S88) : LeO (ContainsFunc_Field.p k g x) (ContainsFunc_Field.p (k + 1) g x) := by
  unfold ContainsFunc_Field.p
  refine LeO.ite (impl_TableOk_1.mono _ _ _ _) ?_
  refine LeO.ite (impl_HeadOk_1.mono _ _ _ _) ?_
  exact LeO.refl _
theorem ContainsFunc_Field.mono : ∀ a0 a1 k, LeO (ContainsFunc_Field.f k a0 a1) (ContainsFunc_Field.f (k + 1) a0 a1) := by
  intro a0 a1 k
  unfold ContainsFunc_Field.f
  refine LeO.ite ?_ (LeO.refl _)
  exact LeO.bind (idxFrom_mono (fun x => ContainsFunc_Field.p_mono k a1 x) a0 0) (fun _ => LeO.refl _)
theorem ContainsFunc_Field.enters (a1 : Nat) (h : ContainsFunc_Field.known a1) : ∀ args w, (callFunc a1 args).run Try.prog w = .ok (.enter a1 args) w := by
  unfold ContainsFunc_Field.known at h
  rcases h with e | h
  · subst e; exact enters_of Try.func63 (by kernel_rfl) rfl
  rcases h with e | h
  · subst e; exact enters_of Try.func109 (by kernel_rfl) rfl
  cases h
theorem ContainsFunc_Field.pred (k a1 : Nat) (w : World) : PredIs Try.prog a1 #[] (ContainsFunc_Field.p k a1) w := by
  intro W x b hW h
  unfold ContainsFunc_Field.p at h
  split at h
  · rename_i e; subst e; rw [Array.append_empty]; exact (impl_TableOk_1.calls k x.f0 x.f1 x.f2 b W h).mono fun e w2 h2 => ⟨h2.1, below_step hW h2.2⟩
  split at h
  · rename_i e; subst e; rw [Array.append_empty]; exact (impl_HeadOk_1.calls k x.f0 x.f1 x.f2 b W h).mono fun e w2 h2 => ⟨h2.1, below_step hW h2.2⟩
  cases h
set_option maxHeartbeats 4000000 in
set_option maxRecDepth 100000 in
theorem ContainsFunc_Field.calls (k : Nat) (A0 : Option Addr) (c0 : Nat) (l0 : List (S88)) (a1 : Nat) (r : Bool) (w : World) (hr0 : Kd.C k88 w A0 l0.length l0) (hc0 : l0.length ≤ c0) (h : ContainsFunc_Field.f k l0 a1 = some r) :
    Calls Try.prog 62 #[.slice A0 l0.length c0, .func (.func a1) #[] #[]] w fun e w' => e = .returned (.bool r) ∧ Below w.heap.size w w' := by
  unfold ContainsFunc_Field.f at h
  split at h
  case isFalse => cases h
  rename_i hl
  obtain ⟨i, hi, hr⟩ := Option.bind_eq_some_iff.1 h
  obtain rfl := Option.some.inj hr
  exact ContainsFunc_calls a1 #[] _ (ContainsFunc_Field.enters a1 hl.2) A0 c0 _ i w hr0 hc0 (ContainsFunc_Field.pred k a1 w) hi hl.1

/-! ### impl_Table_size: function 65 -/
-- thin
def impl_Table_size.l0 : Nat → Int → List (S88) → Int → Int → Option (Int)
 | 0, _, _, _, _ => none
 | k + 1, x3, x7, x8, x9 => if x9 < x8 then (if 0 ≤ x9 then (if x9 < (x7.length : Int) then (impl_Table_size.l0 k (wrap64 (x3 + (wrap64 ((wrap64 ((((rd_T88 x7 x9).f0).size : Int) + (((rd_T88 x7 x9).f1).size : Int))) + 4)))) x7 x8 (wrap64 (x9 + 1))) else (none)) else (none)) else (some x3)
def impl_Table_size.f (k : Nat) (l0_0 : List (S88)) (a0_1 : Int) : Option (Int) := impl_Table_size.l0 k 0 l0_0 (l0_0.length : Int) 0
theorem impl_Table_size.mono_l : ∀ k, (∀ y0 y1 y2 y3, LeO (impl_Table_size.l0 k y0 y1 y2 y3) (impl_Table_size.l0 (k + 1) y0 y1 y2 y3))
 | 0 => fun _ _ _ _ r h => by simp [impl_Table_size.l0] at h
 | k + 1 => by
  have ih0 := impl_Table_size.mono_l k
  ·intro y0 y1 y2 y3
   unfold impl_Table_size.l0
   exact zm
theorem impl_Table_size.mono : ∀ a0 a1 k, LeO (impl_Table_size.f k a0 a1) (impl_Table_size.f (k + 1) a0 a1) := by
 intro a0 a1 k
 have ih0 := impl_Table_size.mono_l k
 unfold impl_Table_size.f
 exact zm
set_option maxHeartbeats 8000000 in
set_option maxRecDepth 100000 in
theorem impl_Table_size.calls (k : Nat) (A0_0 : Option Addr) (c0_0 : Nat) (l0_0 : List (S88)) (a0_1 : Int) (r : Int) (w : World) (hr0_0 : Kd.C k88 w A0_0 l0_0.length l0_0) (hc0_0 : l0_0.length ≤ c0_0) (h : impl_Table_size.f k l0_0 a0_1 = some r) :
  Calls Try.prog 65 #[.agg #[.slice A0_0 l0_0.length c0_0, .int .i64 a0_1]] w fun e w' => e = .returned (.int .i64 r) ∧ Below w.heap.size w w' := by
 have hu25 := Try.underlying25
 have hu88 := Try.underlying88
 have HR0_0 := Aside0.mk hr0_0
 have HC0_0 := Aside0.mk hc0_0
 clear hr0_0 hc0_0
 have HB := Aside0.mk (Below.refl w.heap.size w)
 have H : (impl_Table_size.l0 k 0 l0_0 (l0_0.length : Int) 0) = some r := h
 clear h
 have H' := Aside0.mk H
 clear H
 go_enter Try.func65, Try.ntmps65
 go_wp2_with (first | ((with_reducible refine gd 1 rfl ?_); refine bx (N := 1) (cs := #[.slice A0_0 l0_0.length c0_0, .int .i64 a0_1]) (t := 25) ?_; intro gb401 hg w2 hbox hb; have BK401 := Aside0.mk (hbox); have GW401 := gw HB hg; have GE401 := GW401; replace HB := Aside0.mk (below_step (zb HB) hb); clear hb hbox hg; obtain ⟨hcz3_0, hcz3_1, hfz3_0, hfz3_1⟩ := c2 BK401))
 go_loopg [3, 9] k (fun kq v3 v9 w' => ∃ (x3_1 : Int) (x9_1 : Int), v3 = .int .i64 x3_1 ∧ v9 = .int .i64 x9_1 ∧ Aside0 (impl_Table_size.l0 kq x3_1 l0_0 (l0_0.length : Int) x9_1 = some r) ∧ Aside0 (kq ≤ k) ∧ Aside0 (w'.heap[gb401]? = some (.cells #[(.slice A0_0 l0_0.length c0_0), .int .i64 a0_1] 25 (0, 0))) ∧ Aside0 (Below w.heap.size w w'))
 case atStart => exact ⟨(0), (0), zs, zs, H', ⟨Nat.le_refl _⟩, ⟨by exact zk BK401⟩, ⟨zb HB⟩⟩
 case round =>
  clear H'
  try clear p2
  try clear hcz3_0
  try clear hcz3_1
  try clear hfz3_0
  try clear hfz3_1
  obtain ⟨x3_1, x9_1, rfl, rfl, HA, HK1, BK401, HB⟩ := hrel
  cases gk with
  | zero => exact absurd HA.out (by simp [impl_Table_size.l0])
  | succ k1 =>
   have H := HA.out
   clear HA
   simp only [impl_Table_size.l0] at H
   replace H := sp H
   rcases H with ⟨c4, H⟩ | ⟨c4, H⟩
   ·skip
    have c4b0 := decide_eq_true c4
    clear c4
    by_cases c5 : 0 ≤ x9_1
    ·rw [if_pos c5] at H
     have c5b0 := decide_eq_true c5
     clear c5
     by_cases c6 : x9_1 < (l0_0.length : Int)
     ·rw [if_pos c6] at H
      have c6b0 := decide_eq_true c6
      clear c6
      have H' := Aside0.mk H
      clear H
      have p402 : 0 ≤ (x9_1 : Int) := of_decide_eq_true za
      have q402 : x9_1 < (l0_0.length : Int) := of_decide_eq_true za
      obtain ⟨ad402, e402, hx402_0, hx402_1, hx402_2⟩ := at_T88 HR0_0.out x9_1 p402 q402
      cases e402
      replace hx402_0 := cb0 hx402_0 HB
      replace hx402_1 := cb0 hx402_1 HB
      replace hx402_2 := cb0 hx402_2 HB
      replace p402 := eq_true p402
      replace q402 := eq_true q402
      go_wp2_with (first | ((with_reducible refine gd 5 rfl ?_); refine bx (N := 5) (cs := #[.string (⟨#[]⟩ : ByteArray), .string (⟨#[]⟩ : ByteArray), .bool false]) (t := 88) ?_; intro gb403 hg w7 hbox hb; have BK403 := Aside0.mk (hbox); have GW403 := gw HB hg; have GE403 := GW403; replace HB := Aside0.mk (below_step (zb HB) hb); obtain ⟨NB401_403, NB403_401⟩ := nb BK401 hg; replace BK401 := kb BK401 hb; clear hb hbox hg; have hnb8 := NB403_401.out; have hnc8 := NB401_403.out; obtain ⟨hcz9_0, hcz9_1, hcz9_2, hfz9_0, hfz9_1, hfz9_2⟩ := c3 BK403))
      go_roundg k1
      case measure => have := HK1.out; omega
      case rel => exact ⟨(wrap64 (x3_1 + (wrap64 ((wrap64 ((((rd_T88 l0_0 x9_1).f0).size : Int) + (((rd_T88 l0_0 x9_1).f1).size : Int))) + 4)))), (wrap64 (x9_1 + 1)), zs, zs, H', ⟨by have := HK1.out; omega⟩, ⟨zp BK401⟩, ⟨zb HB⟩⟩
     ·rw [if_neg c6] at H
      exact absurd H (by simp)
    ·rw [if_neg c5] at H
     exact absurd H (by simp)
   ·skip
    have c4b0 := decide_eq_false c4
    clear c4
    obtain rfl := Option.some.inj H
    go_wp2
    go_ret
    exact ⟨ze, zb HB⟩

end Go.Proofs.Ytlpibelofcabhaa.PFnExactEndLeave
