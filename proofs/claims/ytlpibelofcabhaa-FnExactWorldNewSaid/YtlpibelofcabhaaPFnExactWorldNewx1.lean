-- WRITTEN BY a turned print (wip/tools of the prover's repo)
import Derived.Test.YtlpibelofcabhaaPFnExactWorldNewx0
namespace Go.Proofs.Ytlpibelofcabhaa.PFnExactWorldNew
open Go.RowKit Go.Proofs.YtlpibelofcabhaaW.PrintWords Go.Proofs.YtlpibelofcabhaaW.PrintLast Go.Proofs.YtlpibelofcabhaaW.PrintMore Go.Proofs.Ytlpibelofcabhaa.Lm
attribute [local go_sem] max2_int min2_int max_two min_two max_three min_three max_four min_four   -- for this text's walks alone
set_option linter.unusedVariables false
set_option linter.unusedSimpArgs false

/-! ### spec_l21Table: function 66 -/
-- thin
def spec_l21Table.f  : Option ((List (S88)) × Int) := some ((([] : List (S88))), 64)
set_option maxHeartbeats 8000000 in
set_option maxRecDepth 100000 in
theorem spec_l21Table.calls  (r1 : List (S88)) (r2 : Int) (w : World) (h : spec_l21Table.f  = some (r1, r2)) :
  Calls Try.prog 66 #[] w fun e w' => ∃ v0_ : Value, e = .returned (.agg #[v0_, .int .i64 r2]) ∧ Kd.R k88 88 w' w.heap.size (fun _ => True) v0_ r1 ∧ Below w.heap.size w w' := by
 have hu25 := Try.underlying25
 have HB := Aside0.mk (Below.refl w.heap.size w)
 have H : (some ((([] : List (S88))), 64)) = some (r1, r2) := h
 clear h
 obtain ⟨y102, hy102⟩ : ∃ y_ : List (S88), y_ = (([] : List (S88))) := ⟨_, rfl⟩
 replace H : (some (y102, 64)) = some (r1, r2) := by first | (rw [hy102]; with_reducible exact H) | (have H2_ := (Option.bind_some _ _).symm.trans H; rw [hy102]; with_reducible exact H2_) | (have H2_ := (Option.bind_some _ _).symm.trans H; with_reducible exact H2_) | with_reducible exact H | (rw [hy102]; exact H) | exact H
 have Ny102 := Aside0.mk hy102
 clear hy102
 simp only [Option.some.injEq, Prod.mk.injEq] at H
 obtain ⟨rfl, rfl⟩ := H
 go_enter Try.func66, Try.ntmps66
 go_wp2_with (first | ((with_reducible refine gd 0 rfl ?_); refine bx (N := 0) (cs := #[.slice none 0 0, .int .i64 0]) (t := 25) ?_; intro gb101 hg w1 hbox hb; have BK101 := Aside0.mk (hbox); have GW101 := gw HB hg; have GE101 := GW101; replace HB := Aside0.mk (below_step (zb HB) hb); clear hb hbox hg) | ((with_reducible refine gd 1 rfl ?_); refine Kd.R_lit k88 _ 88 ?hg (N := 1) ?hd (xs := ([] : List (S88))) (inner := []) (ok := fun _ => True) (okp := fun _ => True) ?hr ?hp (fun _ hk => hk) trivial (Below.refl _ _) (Nat.le_refl _) (by simp) ?_; (case hd => rfl); (case hg => rfl); (case hr => first | (go_simp; done) | (go_simp; rfl)); (case hp => exact (Reps.none _ _)); intro v103 w2 ho3 hb hg_ hnew_; clear hg_ hnew_; (first | rw [← Ny102.out] at ho3 | (simp only [Int.reduceToNat] at ho3; rw [← Ny102.out] at ho3)); have HO104 := Aside0.mk (Kd.R_lower ho3 (below_size (zb HB))); replace BK101 := kb BK101 hb; replace HB := Aside0.mk (below_step (zb HB) hb); clear hb ho3; obtain ⟨Ao4, co4, eo4⟩ := Kd.R_slice HO104.out; subst eo4; obtain ⟨hcz5_0, hcz5_1, hfz5_0, hfz5_1⟩ := c2 BK101))
 refine bodyPost_ret (results_cell_row rfl _ _ gb101 25 #[.slice Ao4 y102.length co4, .int .i64 64] (0, 0) _ rfl (zp BK101) Try.underlying25 rfl (by kernel_rfl)) rfl ?_
 exact ⟨_, ze, (Kd.R_mono (ztR (Kd.R_types HO104.out BK101.out (by decide))) (fun _ hk => trivial)), zb HB⟩

/-! ### spec_EndNew: function 20 -/
-- thin
def spec_EndNew.f (a0 : Bool) : Option (Bool × (List (S88)) × Int × (List (S88)) × Int × ByteArray × (List (S104)) × Int × Int × (List (S110)) × Bool) := (spec_l21Table.f).bind fun bt106 => ((spec_l21Table.f).bind fun bt110 => (some (a0, bt106.1, bt106.2, bt110.1, bt110.2, (⟨#[]⟩ : ByteArray), (([] : List (S104))), 16, 16, (([] : List (S110))), false)))
set_option maxHeartbeats 8000000 in
set_option maxRecDepth 100000 in
theorem spec_EndNew.calls (a0 : Bool) (r1 : Bool) (r2 : List (S88)) (r3 : Int) (r4 : List (S88)) (r5 : Int) (r6 : ByteArray) (r7 : List (S104)) (r8 : Int) (r9 : Int) (r10 : List (S110)) (r11 : Bool) (w : World) (h : spec_EndNew.f a0 = some (r1, r2, r3, r4, r5, r6, r7, r8, r9, r10, r11)) :
  Calls Try.prog 20 #[.bool a0] w fun e w' => ∃ v1_ v3_ v6_ v9_ : Value, e = .returned (.agg #[.bool r1, v1_, .int .i64 r3, v3_, .int .i64 r5, .string r6, v6_, .int .i64 r8, .int .i64 r9, v9_, .bool r11]) ∧ Kd.R k88 88 w' w.heap.size (fun k_ => some k_ ≠ (v3_ : Value).ownBlock) v1_ r2 ∧ Kd.R k88 88 w' w.heap.size (fun k_ => some k_ ≠ (v1_ : Value).ownBlock) v3_ r4 ∧ Kd.S k104 104 w' w.heap.size (fun k_ => some k_ ≠ (v1_ : Value).ownBlock ∧ some k_ ≠ (v3_ : Value).ownBlock) v6_ r7 ∧ Kd.R k110 110 w' w.heap.size (fun _ => True) v9_ r10 ∧ Below w.heap.size w w' := by
 have hu42 := Try.underlying42
 have hu39 := Try.underlying39
 have HB := Aside0.mk (Below.refl w.heap.size w)
 have H : ((spec_l21Table.f).bind fun bt106 => ((spec_l21Table.f).bind fun bt110 => (some (a0, bt106.1, bt106.2, bt110.1, bt110.2, (⟨#[]⟩ : ByteArray), (([] : List (S104))), 16, 16, (([] : List (S110))), false)))) = some (r1, r2, r3, r4, r5, r6, r7, r8, r9, r10, r11) := h
 clear h
 obtain ⟨⟨t106, t109⟩, A2, H⟩ := ob H
 (try dsimp only at H)
 obtain ⟨⟨t110, t113⟩, A3, H⟩ := ob H
 (try dsimp only at H)
 obtain ⟨y114, hy114⟩ : ∃ y_ : List (S104), y_ = (([] : List (S104))) := ⟨_, rfl⟩
 replace H : (some (a0, t106, t109, t110, t113, (⟨#[]⟩ : ByteArray), y114, 16, 16, (([] : List (S110))), false)) = some (r1, r2, r3, r4, r5, r6, r7, r8, r9, r10, r11) := by first | (rw [hy114]; with_reducible exact H) | (have H2_ := (Option.bind_some _ _).symm.trans H; rw [hy114]; with_reducible exact H2_) | (have H2_ := (Option.bind_some _ _).symm.trans H; with_reducible exact H2_) | with_reducible exact H | (rw [hy114]; exact H) | exact H
 have Ny114 := Aside0.mk hy114
 clear hy114
 obtain ⟨y117, hy117⟩ : ∃ y_ : List (S110), y_ = (([] : List (S110))) := ⟨_, rfl⟩
 replace H : (some (a0, t106, t109, t110, t113, (⟨#[]⟩ : ByteArray), y114, 16, 16, y117, false)) = some (r1, r2, r3, r4, r5, r6, r7, r8, r9, r10, r11) := by first | (rw [hy117]; with_reducible exact H) | (have H2_ := (Option.bind_some _ _).symm.trans H; rw [hy117]; with_reducible exact H2_) | (have H2_ := (Option.bind_some _ _).symm.trans H; with_reducible exact H2_) | with_reducible exact H | (rw [hy117]; exact H) | exact H
 have Ny117 := Aside0.mk hy117
 clear hy117
 simp only [Option.some.injEq, Prod.mk.injEq] at H
 obtain ⟨rfl, rfl, rfl, rfl, rfl, rfl, rfl, rfl, rfl, rfl, rfl⟩ := H
 go_enter Try.func20, Try.ntmps20
 go_wp2_with (first | ((with_reducible refine gd 2 rfl ?_); refine bx (N := 2) (cs := #[.bool false, .slice none 0 0, .int .i64 0, .slice none 0 0, .int .i64 0, .string (⟨#[]⟩ : ByteArray), .slice none 0 0, .int .i64 0, .int .i64 0, .slice none 0 0, .bool false]) (t := 42) ?_; intro gb105 hg w4 hbox hb; have BK105 := Aside0.mk (hbox); have GW105 := gw HB hg; have GE105 := GW105; replace HB := Aside0.mk (below_step (zb HB) hb); clear hb hbox hg) | ((with_reducible refine gq 66 rfl ?_); refine gl (some 4) Try.func66 #[] ?_; (with_reducible refine (spec_l21Table.calls  t106 t109 _ A2.out).mono ?_); rintro e w5 ⟨v107, rfl, ho0, hb⟩; refine ⟨_, rfl, ?_⟩; have HO108 := Aside0.mk (Kd.R_lower ho0 (below_size (zb HB))); replace BK105 := kb BK105 hb; replace HB := Aside0.mk (below_step (zb HB) hb); (try clear hb); (try clear ho0)) | ((with_reducible refine gq 66 rfl ?_); refine gl (some 5) Try.func66 #[] ?_; (with_reducible refine (spec_l21Table.calls  t110 t113 _ A3.out).mono ?_); rintro e w6 ⟨v111, rfl, ho0, hb⟩; refine ⟨_, rfl, ?_⟩; have HO112 := Aside0.mk (Kd.R_lower (Kd.R_new' ho0 (Kd.R_lt (zr HO108))) (below_size (zb HB))); replace HO108 := Aside0.mk (Kd.R_elder' (zr HO108) (Kd.R_base ho0) hb); replace BK105 := kb BK105 hb; replace HB := Aside0.mk (below_step (zb HB) hb); (try clear hb); (try clear ho0)) | ((with_reducible refine gd 6 rfl ?_); refine Kd.S_lit k104 _ 104 ?hg (N := 6) ?hd (xs := ([] : List (S104))) (inner := []) (ok := fun _ => True) (okp := fun _ => True) ?hr ?hp (fun _ hk => hk) trivial (Below.refl _ _) (Nat.le_refl _) (by simp) ?_; (case hd => rfl); (case hg => rfl); (case hr => first | (go_simp; done) | (go_simp; rfl)); (case hp => exact (Reps.none _ _)); intro v115 w7 ho8 hb hg_ hnew_; clear hg_ hnew_; (first | rw [← Ny114.out] at ho8 | (simp only [Int.reduceToNat] at ho8; rw [← Ny114.out] at ho8)); have HO116 := Aside0.mk (Kd.S_lower (Kd.S_new' (Kd.S_new' ho8 (Kd.R_lt (zr HO108))) (Kd.R_lt (zr HO112))) (below_size (zb HB))); replace HO108 := Aside0.mk (Kd.R_below (zr HO108) hb); replace HO112 := Aside0.mk (Kd.R_below (zr HO112) hb); replace BK105 := kb BK105 hb; replace HB := Aside0.mk (below_step (zb HB) hb); clear hb ho8) | ((with_reducible refine gd 8 rfl ?_); refine Kd.R_lit k110 _ 110 ?hg (N := 8) ?hd (xs := ([] : List (S110))) (inner := []) (ok := fun _ => True) (okp := fun _ => True) ?hr ?hp (fun _ hk => hk) trivial (Below.refl _ _) (Nat.le_refl _) (by simp) ?_; (case hd => rfl); (case hg => rfl); (case hr => first | (go_simp; done) | (go_simp; rfl)); (case hp => exact (Reps.none _ _)); intro v118 w9 ho10 hb hg_ hnew_; clear hg_ hnew_; (first | rw [← Ny117.out] at ho10 | (simp only [Int.reduceToNat] at ho10; rw [← Ny117.out] at ho10)); replace HO108 := Aside0.mk (Kd.R_below (zr HO108) hb); replace HO112 := Aside0.mk (Kd.R_below (zr HO112) hb); replace HO116 := Aside0.mk (Kd.S_below (by (with_reducible repeat (first | apply Kd.S_alloc | apply Kd.S_drewN | apply Kd.S_drew)); exact HO116.out) hb); have HO119 := Aside0.mk (Kd.R_lower ho10 (below_size (zb HB))); replace BK105 := kb BK105 hb; replace HB := Aside0.mk (below_step (zb HB) hb); clear hb ho10; obtain ⟨Ao11, co11, eo11⟩ := Kd.R_slice HO119.out; subst eo11; obtain ⟨Ao12, co12, eo12⟩ := Kd.S_slice HO116.out; subst eo12; obtain ⟨Ao13, co13, eo13⟩ := Kd.R_slice HO112.out; subst eo13; obtain ⟨Ao14, co14, eo14⟩ := Kd.R_slice HO108.out; subst eo14; obtain ⟨hcz15_0, hcz15_1, hcz15_2, hcz15_3, hcz15_4, hcz15_5, hcz15_6, hcz15_7, hcz15_8, hcz15_9, hcz15_10, hfz15_0, hfz15_1, hfz15_2, hfz15_3, hfz15_4, hfz15_5, hfz15_6, hfz15_7, hfz15_8, hfz15_9, hfz15_10⟩ := c11 BK105))
 refine bodyPost_ret (results_cell_row rfl _ _ gb105 42 #[.bool a0, .slice Ao14 t106.length co14, .int .i64 t109, .slice Ao13 t110.length co13, .int .i64 t113, .string (⟨#[]⟩ : ByteArray), .slice Ao12 y114.length co12, .int .i64 16, .int .i64 16, .slice Ao11 y117.length co11, .bool false] (0, 0) _ rfl (zp BK105) Try.underlying42 rfl (by kernel_rfl)) rfl ?_
 exact ⟨_, _, _, _, ze, (Kd.R_mono (ztR (Kd.R_types HO108.out BK105.out (by decide))) (fun _ hk => hk.1.2)), (Kd.R_mono (ztR (Kd.R_types HO112.out BK105.out (by decide))) (fun _ hk => hk.1.2)), by (with_reducible repeat (first | apply Kd.S_alloc | apply Kd.S_drewN | apply Kd.S_drew)); exact Kd.S_mono (ztS (Kd.S_types HO116.out BK105.out (by decide))) (fun _ hk => ⟨hk.1.1.2, hk.1.2⟩), (Kd.R_mono (ztR (Kd.R_types HO119.out BK105.out (by decide))) (fun _ hk => trivial)), zb HB⟩

/-! ### spec_WorldNew: function 25 -/
-- by hand
section
variable {P : Program} {ops : Array Oper} {rest : List Oper} {o : Oper} {a : Act} {Q : Exit → Act → World → Prop} {W W0 : World} {g T : Nat} {c0 c1 : Array Value}
theorem chg_heap (h0 : Aside0 (W0.heap[g]? = some (.cells c0 T (0, 0)))) (m : Chg g W0 c0 W c1) : W.heap[g]? = some (.cells c1 T (0, 0)) := zp h0 m rfl
/-- A record out of a block, as one. -/
theorem ld {cs2 : Array Value} {ty : TypeId} {x : Operand} {d : TypeDesc} (h0 : Aside0 (W0.heap[g]? = some (.cells c0 T (0, 0)))) (j : Nat) (cs : List Value) (hu : P.underlying ty = some d) (h : wpList P ops Q rest (a.put o.dst (.agg cs.toArray)) W)
    (m : Chg g W0 c0 W c1 := by repeat (first | (with_reducible first | exact Chg.refl | apply Chg.alloc | apply Chg.drewN | apply Chg.drew | apply Chg.put) | ((with_reducible apply Chg.far); (case hp => exact Aside0.out (by assumption)))))
    (he : (c1.extract j (j + cs.length)).toList = cs := by kernel_rfl) (hg : o.guard = none := by rfl) (ho : o.op = .load ty x := by rfl) (hx : a.eval x = .pointer (some ⟨g, j, none⟩) := by rfl) (hd : d.isRow = true := by rfl) (hi : (P.info? ty).map (·.size) = some cs.length := by kernel_rfl) : wpList P ops Q (o :: rest) a W :=
  wpList_load_mid hg ty x ho g j hx cs d (by have h1 := World.rangeAt_of_block (chg_heap h0 m) j cs.length; rwa [he] at h1) hu hd hi h
def putAll : Array Value → Nat → List Value → Array Value
  | c, _, [] => c
  | c, j, v :: r => putAll (c.setIfInBounds j v) (j + 1) r
theorem setCells_heap (vs : List Value) : ∀ (j : Nat) (W : World) (c : Array Value), W.heap[g]? = some (.cells c T (0, 0)) → (W.setCells g j vs).heap[g]? = some (.cells (putAll c j vs) T (0, 0)) := by
  induction vs with
  | nil => intro j W c h; exact h
  | cons v r ih => intro j W c h; exact ih (j + 1) _ _ (blk_put h j v rfl)
theorem setCells_keep (vs : List Value) : ∀ (j : Nat) (V W : World), KeepBut V W g none → KeepBut V (W.setCells g j vs) g none := by
  induction vs with
  | nil => intro j V W h; exact h
  | cons v r ih => intro j V W h; exact ih (j + 1) V _ (KeepBut.set_ h j v)
theorem setCells_low (vs : List Value) : ∀ (j n : Nat) (V W : World), Below n V W → n ≤ g → Below n V (W.setCells g j vs) := by
  induction vs with
  | nil => intro j n V W h _; exact h
  | cons v r ih => intro j n V W h hn; exact ih (j + 1) n V _ (Below.setCell h hn v) hn
/-- A record into a block, as one. -/
theorem sd {ty : TypeId} {x y : Operand} (h0 : Aside0 (W0.heap[g]? = some (.cells c0 T (0, 0)))) (j : Nat) (vs : List Value) (cs1 : Array Value)
    (h : ∀ w', Aside0 (w'.heap[g]? = some (.cells cs1 T (0, 0))) → KeepBut W w' g none → (∀ n V, Below n V W → n ≤ g → Below n V w') → wpList P ops Q rest a w') (h1 : ∀ v ∈ vs, v.oneCell' = true)
    (m : Chg g W0 c0 W c1 := by repeat (first | (with_reducible first | exact Chg.refl | apply Chg.alloc | apply Chg.drewN | apply Chg.drew | apply Chg.put) | ((with_reducible apply Chg.far); (case hp => exact Aside0.out (by assumption)))))
    (he : putAll c1 j vs = cs1 := by kernel_rfl) (hl : decide (j + vs.length ≤ c1.size) = true := by kernel_rfl) (hg : o.guard = none := by rfl) (hn : o.dst = none := by rfl) (ho : o.op = .store ty x y := by rfl) (hx : a.eval x = .pointer (some ⟨g, j, none⟩) := by rfl) (hy : a.eval y = .agg vs.toArray := by rfl) (hi : (P.info? ty).map (·.size) = some vs.toArray.size := by kernel_rfl) : wpList P ops Q (o :: rest) a W := by
  have hb := chg_heap h0 m
  have hl' := of_decide_eq_true hl
  refine wpList_store_mid hg ty x y ho g j vs.toArray hx hy (fun i hi => ?_) hi (all_oneCell_toArray h1) ?_
  · rw [List.size_toArray] at hi
    refine ⟨?_, blk_frozen hb _⟩
    rw [blk_cell hb, Array.getElem?_eq_getElem (by omega)]
    rfl
  · rw [hn]
    show wpList P ops Q rest a (W.setCells g j vs)
    exact h _ ⟨by rw [← he]; exact setCells_heap vs j W c1 hb⟩ (setCells_keep vs j W W (KeepBut.refl W g none)) (fun n V hV hn => setCells_low vs j n V W hV hn)
theorem cz {cs : Array Value} {v : Value} (h : Aside0 (W.heap[g]? = some (.cells cs T (0, 0)))) (j : Nat) (e : cs[j]? = some v) : W.cell? ⟨g, j, none⟩ = some v := (blk_cell h.out j).trans e
end
section
variable {α : Type} {d : Kd α} {e base n : Nat} {ok : Nat → Prop} {v : Value} {xs : List α} {W W1 w : World}
theorem ocR (h : d.R e W base ok v xs) : v.oneCell' = true := by obtain ⟨A, c, rfl⟩ := Kd.R_slice h; rfl
theorem ocS (h : Kd.S d e W base ok v xs) : v.oneCell' = true := ocR (Kd.S_R h)
theorem newR (h : d.R e W1 n ok v xs) (hle : base ≤ n) : d.R e W1 base (fun k => ok k ∧ n ≤ k) v xs := Kd.R_lower (Kd.R_mono (Kd.R_bound h) (fun _ hk => ⟨hk.1, hk.2.1⟩)) hle
theorem newS (h : Kd.S d e W1 n ok v xs) (hle : base ≤ n) : Kd.S d e W1 base (fun k => ok k ∧ n ≤ k) v xs := Kd.S_lower (Kd.S_mono (Kd.S_bound h) (fun _ hk => ⟨hk.1, hk.2.1⟩)) hle
theorem ownltR (h : d.R e W base (fun k => ok k ∧ k < n) v xs) (k : Nat) (hk : v.ownBlock = some k) : k < n := (h.1 k hk).2
theorem owngeR (h : d.R e W base (fun k => ok k ∧ n ≤ k) v xs) (k : Nat) (hk : v.ownBlock = some k) : n ≤ k := (h.1 k hk).2
theorem ownltS (h : Kd.S d e W base (fun k => ok k ∧ k < n) v xs) (k : Nat) (hk : v.ownBlock = some k) : k < n := ownltR (Kd.S_R h) k hk
theorem owngeS (h : Kd.S d e W base (fun k => ok k ∧ n ≤ k) v xs) (k : Nat) (hk : v.ownBlock = some k) : n ≤ k := owngeR (Kd.S_R h) k hk
theorem lt_ne {k : Nat} (h : k < n) (ho : ∀ k, v.ownBlock = some k → n ≤ k) (e : some k = v.ownBlock) : False := by have := ho k e.symm; omega
theorem ge_ne {k : Nat} (h : n ≤ k) (ho : ∀ k, v.ownBlock = some k → k < n) (e : some k = v.ownBlock) : False := by have := ho k e.symm; omega
end
def spec_WorldNew.f  : Option (Bool × (List (S88)) × Int × (List (S88)) × Int × ByteArray × (List (S104)) × Int × Int × (List (S110)) × Bool × Bool × (List (S88)) × Int × (List (S88)) × Int × ByteArray × (List (S104)) × Int × Int × (List (S110)) × Bool × ByteArray × ByteArray) := (spec_EndNew.f false).bind fun bt121 => ((spec_EndNew.f true).bind fun bt140 => (some (bt121.1, bt121.2.1, bt121.2.2.1, bt121.2.2.2.1, bt121.2.2.2.2.1, bt121.2.2.2.2.2.1, bt121.2.2.2.2.2.2.1, bt121.2.2.2.2.2.2.2.1, bt121.2.2.2.2.2.2.2.2.1, bt121.2.2.2.2.2.2.2.2.2.1, bt121.2.2.2.2.2.2.2.2.2.2, bt140.1, bt140.2.1, bt140.2.2.1, bt140.2.2.2.1, bt140.2.2.2.2.1, bt140.2.2.2.2.2.1, bt140.2.2.2.2.2.2.1, bt140.2.2.2.2.2.2.2.1, bt140.2.2.2.2.2.2.2.2.1, bt140.2.2.2.2.2.2.2.2.2.1, bt140.2.2.2.2.2.2.2.2.2.2, (⟨#[]⟩ : ByteArray), (⟨#[]⟩ : ByteArray))))
set_option maxHeartbeats 8000000 in
set_option maxRecDepth 100000 in
theorem spec_WorldNew.calls  (r1 : Bool) (r2 : List (S88)) (r3 : Int) (r4 : List (S88)) (r5 : Int) (r6 : ByteArray) (r7 : List (S104)) (r8 : Int) (r9 : Int) (r10 : List (S110)) (r11 : Bool) (r12 : Bool) (r13 : List (S88)) (r14 : Int) (r15 : List (S88)) (r16 : Int) (r17 : ByteArray) (r18 : List (S104)) (r19 : Int) (r20 : Int) (r21 : List (S110)) (r22 : Bool) (r23 : ByteArray) (r24 : ByteArray) (w : World) (h : spec_WorldNew.f  = some (r1, r2, r3, r4, r5, r6, r7, r8, r9, r10, r11, r12, r13, r14, r15, r16, r17, r18, r19, r20, r21, r22, r23, r24)) :
  Calls Try.prog 25 #[] w fun e w' => ∃ v1_ v3_ v6_ v9_ v12_ v14_ v17_ v20_ : Value, e = .returned (.agg #[.bool r1, v1_, .int .i64 r3, v3_, .int .i64 r5, .string r6, v6_, .int .i64 r8, .int .i64 r9, v9_, .bool r11, .bool r12, v12_, .int .i64 r14, v14_, .int .i64 r16, .string r17, v17_, .int .i64 r19, .int .i64 r20, v20_, .bool r22, .string r23, .string r24]) ∧ Kd.R k88 88 w' w.heap.size (fun k_ => some k_ ≠ (v3_ : Value).ownBlock ∧ some k_ ≠ (v12_ : Value).ownBlock ∧ some k_ ≠ (v14_ : Value).ownBlock) v1_ r2 ∧ Kd.R k88 88 w' w.heap.size (fun k_ => some k_ ≠ (v1_ : Value).ownBlock ∧ some k_ ≠ (v12_ : Value).ownBlock ∧ some k_ ≠ (v14_ : Value).ownBlock) v3_ r4 ∧ Kd.S k104 104 w' w.heap.size (fun k_ => some k_ ≠ (v1_ : Value).ownBlock ∧ some k_ ≠ (v3_ : Value).ownBlock ∧ some k_ ≠ (v12_ : Value).ownBlock ∧ some k_ ≠ (v14_ : Value).ownBlock ∧ some k_ ≠ (v17_ : Value).ownBlock) v6_ r7 ∧ Kd.R k110 110 w' w.heap.size (fun k_ => some k_ ≠ (v20_ : Value).ownBlock) v9_ r10 ∧ Kd.R k88 88 w' w.heap.size (fun k_ => some k_ ≠ (v1_ : Value).ownBlock ∧ some k_ ≠ (v3_ : Value).ownBlock ∧ some k_ ≠ (v14_ : Value).ownBlock) v12_ r13 ∧ Kd.R k88 88 w' w.heap.size (fun k_ => some k_ ≠ (v1_ : Value).ownBlock ∧ some k_ ≠ (v3_ : Value).ownBlock ∧ some k_ ≠ (v12_ : Value).ownBlock) v14_ r15 ∧ Kd.S k104 104 w' w.heap.size (fun k_ => some k_ ≠ (v1_ : Value).ownBlock ∧ some k_ ≠ (v3_ : Value).ownBlock ∧ some k_ ≠ (v6_ : Value).ownBlock ∧ some k_ ≠ (v12_ : Value).ownBlock ∧ some k_ ≠ (v14_ : Value).ownBlock) v17_ r18 ∧ Kd.R k110 110 w' w.heap.size (fun k_ => some k_ ≠ (v9_ : Value).ownBlock) v20_ r21 ∧ Below w.heap.size w w' := by
 have hu48 := Try.underlying48
 have HB := Aside0.mk (Below.refl w.heap.size w)
 have H : ((spec_EndNew.f false).bind fun bt121 => ((spec_EndNew.f true).bind fun bt140 => (some (bt121.1, bt121.2.1, bt121.2.2.1, bt121.2.2.2.1, bt121.2.2.2.2.1, bt121.2.2.2.2.2.1, bt121.2.2.2.2.2.2.1, bt121.2.2.2.2.2.2.2.1, bt121.2.2.2.2.2.2.2.2.1, bt121.2.2.2.2.2.2.2.2.2.1, bt121.2.2.2.2.2.2.2.2.2.2, bt140.1, bt140.2.1, bt140.2.2.1, bt140.2.2.2.1, bt140.2.2.2.2.1, bt140.2.2.2.2.2.1, bt140.2.2.2.2.2.2.1, bt140.2.2.2.2.2.2.2.1, bt140.2.2.2.2.2.2.2.2.1, bt140.2.2.2.2.2.2.2.2.2.1, bt140.2.2.2.2.2.2.2.2.2.2, (⟨#[]⟩ : ByteArray), (⟨#[]⟩ : ByteArray))))) = some (r1, r2, r3, r4, r5, r6, r7, r8, r9, r10, r11, r12, r13, r14, r15, r16, r17, r18, r19, r20, r21, r22, r23, r24) := h
 clear h
 obtain ⟨⟨t121, t122, t125, t126, t129, t130, t131, t134, t135, t136, t139⟩, A1, H⟩ := ob H
 (try dsimp only at H)
 obtain ⟨⟨t140, t141, t144, t145, t148, t149, t150, t153, t154, t155, t158⟩, A2, H⟩ := ob H
 (try dsimp only at H)
 simp only [Option.some.injEq, Prod.mk.injEq] at H
 obtain ⟨rfl, rfl, rfl, rfl, rfl, rfl, rfl, rfl, rfl, rfl, rfl, rfl, rfl, rfl, rfl, rfl, rfl, rfl, rfl, rfl, rfl, rfl, rfl, rfl⟩ := H
 go_enter Try.func25, Try.ntmps25
 go_wp2_with (first | ((with_reducible refine gd 0 rfl ?_); refine bx (N := 0) (cs := #[.bool false, .slice none 0 0, .int .i64 0, .slice none 0 0, .int .i64 0, .string (⟨#[]⟩ : ByteArray), .slice none 0 0, .int .i64 0, .int .i64 0, .slice none 0 0, .bool false, .bool false, .slice none 0 0, .int .i64 0, .slice none 0 0, .int .i64 0, .string (⟨#[]⟩ : ByteArray), .slice none 0 0, .int .i64 0, .int .i64 0, .slice none 0 0, .bool false, .string (⟨#[]⟩ : ByteArray), .string (⟨#[]⟩ : ByteArray)]) (t := 48) ?_; intro gB hg w5 hbox hb; have BKB := Aside0.mk hbox; have GWB := gw HB hg; replace HB := Aside0.mk (below_step (zb HB) hb); clear hb hbox hg) | ((with_reducible refine gd 1 rfl ?_); refine gl (some 1) Try.func20 #[.bool false] ?_; (with_reducible refine (spec_EndNew.calls false t121 t122 t125 t126 t129 t130 t131 t134 t135 t136 t139 _ A1.out).mono ?_); rintro e w7 ⟨v1a, v3a, v6a, v9a, rfl, o1, o3, o6, o9, hb⟩; refine ⟨_, rfl, ?_⟩; have O1a := Aside0.mk (Kd.R_lower o1 HB.out.size); have O3a := Aside0.mk (Kd.R_lower o3 HB.out.size); have O6a := Aside0.mk (Kd.S_lower o6 HB.out.size); have O9a := Aside0.mk (Kd.R_lower o9 HB.out.size); replace BKB := kb BKB hb; replace HB := Aside0.mk (below_step (zb HB) hb); clear hb o1 o3 o6 o9) | ((with_reducible refine gd 2 rfl ?_); refine gl (some 2) Try.func20 #[.bool true] ?_; (with_reducible refine (spec_EndNew.calls true t140 t141 t144 t145 t148 t149 t150 t153 t154 t155 t158 _ A2.out).mono ?_); rintro e w9 ⟨v1b, v3b, v6b, v9b, rfl, o1, o3, o6, o9, hb⟩; refine ⟨_, rfl, ?_⟩; replace O1a := Aside0.mk (Kd.R_old O1a.out hb); replace O3a := Aside0.mk (Kd.R_old O3a.out hb); replace O6a := Aside0.mk (Kd.S_old O6a.out hb); replace O9a := Aside0.mk (Kd.R_old O9a.out hb); have O1b := Aside0.mk (newR o1 HB.out.size); have O3b := Aside0.mk (newR o3 HB.out.size); have O6b := Aside0.mk (newS o6 HB.out.size); have O9b := Aside0.mk (newR o9 HB.out.size); replace BKB := kb BKB hb; replace HB := Aside0.mk (below_step (zb HB) hb); clear hb o1 o3 o6 o9) | ((with_reducible refine gate_store (t := 48) (p := 0) rfl ?_); refine sd BKB 0 ([.bool t121, v1a, .int .i64 t125, v3a, .int .i64 t129, .string t130, v6a, .int .i64 t134, .int .i64 t135, v9a, .bool t139, .bool t140, v1b, .int .i64 t144, v3b, .int .i64 t148, .string t149, v6b, .int .i64 t153, .int .i64 t154, v9b, .bool t158, .string (⟨#[]⟩ : ByteArray), .string (⟨#[]⟩ : ByteArray)] : List Value) #[.bool t121, v1a, .int .i64 t125, v3a, .int .i64 t129, .string t130, v6a, .int .i64 t134, .int .i64 t135, v9a, .bool t139, .bool t140, v1b, .int .i64 t144, v3b, .int .i64 t148, .string t149, v6b, .int .i64 t153, .int .i64 t154, v9b, .bool t158, .string (⟨#[]⟩ : ByteArray), .string (⟨#[]⟩ : ByteArray)] ?_ ?h1; (case h1 => (have q1a := ocR O1a.out); (have q3a := ocR O3a.out); (have q6a := ocS O6a.out); (have q9a := ocR O9a.out); (have q1b := ocR O1b.out); (have q3b := ocR O3b.out); (have q6b := ocS O6b.out); (have q9b := ocR O9b.out); intro u hu; simp only [List.mem_cons, List.not_mem_nil, or_false] at hu; rcases hu with rfl | rfl | rfl | rfl | rfl | rfl | rfl | rfl | rfl | rfl | rfl | rfl | rfl | rfl | rfl | rfl | rfl | rfl | rfl | rfl | rfl | rfl | rfl | rfl <;> first | rfl | assumption); intro w11 bkb hk hlow; replace O1a := Aside0.mk (Kd.R_mono (Kd.R_keep (Kd.R_types O1a.out BKB.out (by decide)) hk (fun _ h => h.2)) (fun _ h => h.1)); replace O3a := Aside0.mk (Kd.R_mono (Kd.R_keep (Kd.R_types O3a.out BKB.out (by decide)) hk (fun _ h => h.2)) (fun _ h => h.1)); replace O6a := Aside0.mk (Kd.S_mono (Kd.S_keep (Kd.S_types O6a.out BKB.out (by decide)) hk (fun _ h => h.2)) (fun _ h => h.1)); replace O9a := Aside0.mk (Kd.R_mono (Kd.R_keep (Kd.R_types O9a.out BKB.out (by decide)) hk (fun _ h => h.2)) (fun _ h => h.1)); replace O1b := Aside0.mk (Kd.R_mono (Kd.R_keep (Kd.R_types O1b.out BKB.out (by decide)) hk (fun _ h => h.2)) (fun _ h => h.1)); replace O3b := Aside0.mk (Kd.R_mono (Kd.R_keep (Kd.R_types O3b.out BKB.out (by decide)) hk (fun _ h => h.2)) (fun _ h => h.1)); replace O6b := Aside0.mk (Kd.S_mono (Kd.S_keep (Kd.S_types O6b.out BKB.out (by decide)) hk (fun _ h => h.2)) (fun _ h => h.1)); replace O9b := Aside0.mk (Kd.R_mono (Kd.R_keep (Kd.R_types O9b.out BKB.out (by decide)) hk (fun _ h => h.2)) (fun _ h => h.1)); replace HB := Aside0.mk (hlow _ _ HB.out GWB.out); clear hk hlow))
 refine bodyPost_ret (results_cell_row rfl _ _ gB 48 #[.bool t121, v1a, .int .i64 t125, v3a, .int .i64 t129, .string t130, v6a, .int .i64 t134, .int .i64 t135, v9a, .bool t139, .bool t140, v1b, .int .i64 t144, v3b, .int .i64 t148, .string t149, v6b, .int .i64 t153, .int .i64 t154, v9b, .bool t158, .string (⟨#[]⟩ : ByteArray), .string (⟨#[]⟩ : ByteArray)] (0, 0) _ rfl bkb.out Try.underlying48 rfl (by kernel_rfl)) rfl ?_
 exact ⟨_, _, _, _, _, _, _, _, ze, Kd.R_mono O1a.out (fun k_ hk => ⟨hk.1, (fun e_ => lt_ne hk.2 (owngeR O1b.out) e_), (fun e_ => lt_ne hk.2 (owngeR O3b.out) e_)⟩), Kd.R_mono O3a.out (fun k_ hk => ⟨hk.1, (fun e_ => lt_ne hk.2 (owngeR O1b.out) e_), (fun e_ => lt_ne hk.2 (owngeR O3b.out) e_)⟩), Kd.S_mono O6a.out (fun k_ hk => ⟨hk.1.1, hk.1.2, (fun e_ => lt_ne hk.2 (owngeR O1b.out) e_), (fun e_ => lt_ne hk.2 (owngeR O3b.out) e_), (fun e_ => lt_ne hk.2 (owngeS O6b.out) e_)⟩), Kd.R_mono O9a.out (fun k_ hk => (fun e_ => lt_ne hk.2 (owngeR O9b.out) e_)), Kd.R_mono O1b.out (fun k_ hk => ⟨(fun e_ => ge_ne hk.2 (ownltR O1a.out) e_), (fun e_ => ge_ne hk.2 (ownltR O3a.out) e_), hk.1⟩), Kd.R_mono O3b.out (fun k_ hk => ⟨(fun e_ => ge_ne hk.2 (ownltR O1a.out) e_), (fun e_ => ge_ne hk.2 (ownltR O3a.out) e_), hk.1⟩), Kd.S_mono O6b.out (fun k_ hk => ⟨(fun e_ => ge_ne hk.2 (ownltR O1a.out) e_), (fun e_ => ge_ne hk.2 (ownltR O3a.out) e_), (fun e_ => ge_ne hk.2 (ownltS O6a.out) e_), hk.1.1, hk.1.2⟩), Kd.R_mono O9b.out (fun k_ hk => (fun e_ => ge_ne hk.2 (ownltR O9a.out) e_)), HB.out⟩

/-! ### impl_EndNew: function 21 -/
-- thin
def impl_EndNew.f (a0 : Bool) : Option (Bool × (List (S88)) × Int × (List (S88)) × Int × ByteArray × (List (S104)) × Int × Int × (List (S110)) × Bool) := some (a0, ([] : List (S88)), 64, ([] : List (S88)), 64, (⟨#[]⟩ : ByteArray), ([] : List (S104)), 16, 16, ([] : List (S110)), false)
set_option maxHeartbeats 8000000 in
set_option maxRecDepth 100000 in
theorem impl_EndNew.calls (a0 : Bool) (r1 : Bool) (r2 : List (S88)) (r3 : Int) (r4 : List (S88)) (r5 : Int) (r6 : ByteArray) (r7 : List (S104)) (r8 : Int) (r9 : Int) (r10 : List (S110)) (r11 : Bool) (w : World) (h : impl_EndNew.f a0 = some (r1, r2, r3, r4, r5, r6, r7, r8, r9, r10, r11)) :
  Calls Try.prog 21 #[.bool a0] w fun e w' => ∃ v1_ v3_ v6_ v9_ : Value, e = .returned (.agg #[.bool r1, v1_, .int .i64 r3, v3_, .int .i64 r5, .string r6, v6_, .int .i64 r8, .int .i64 r9, v9_, .bool r11]) ∧ Kd.R k88 88 w' w.heap.size (fun k_ => some k_ ≠ (v3_ : Value).ownBlock) v1_ r2 ∧ Kd.R k88 88 w' w.heap.size (fun k_ => some k_ ≠ (v1_ : Value).ownBlock) v3_ r4 ∧ Kd.S k104 104 w' w.heap.size (fun k_ => some k_ ≠ (v1_ : Value).ownBlock ∧ some k_ ≠ (v3_ : Value).ownBlock) v6_ r7 ∧ Kd.R k110 110 w' w.heap.size (fun _ => True) v9_ r10 ∧ Below w.heap.size w w' := by
 have hu42 := Try.underlying42
 have hu25 := Try.underlying25
 have hu39 := Try.underlying39
 have HB := Aside0.mk (Below.refl w.heap.size w)
 have H : (some (a0, ([] : List (S88)), 64, ([] : List (S88)), 64, (⟨#[]⟩ : ByteArray), ([] : List (S104)), 16, 16, ([] : List (S110)), false)) = some (r1, r2, r3, r4, r5, r6, r7, r8, r9, r10, r11) := h
 clear h
 simp only [Option.some.injEq, Prod.mk.injEq] at H
 obtain ⟨rfl, rfl, rfl, rfl, rfl, rfl, rfl, rfl, rfl, rfl, rfl⟩ := H
 go_enter Try.func21, Try.ntmps21
 go_wp2_with (first | ((with_reducible refine gd 2 rfl ?_); refine bx (N := 2) (cs := #[.bool false, .slice none 0 0, .int .i64 0, .slice none 0 0, .int .i64 0, .string (⟨#[]⟩ : ByteArray), .slice none 0 0, .int .i64 0, .int .i64 0, .slice none 0 0, .bool false]) (t := 42) ?_; intro gb120 hg w2 hbox hb; have BK120 := Aside0.mk (hbox); have GW120 := gw HB hg; have GE120 := GW120; replace HB := Aside0.mk (below_step (zb HB) hb); clear hb hbox hg; obtain ⟨hcz3_0, hcz3_1, hcz3_2, hcz3_3, hcz3_4, hcz3_5, hcz3_6, hcz3_7, hcz3_8, hcz3_9, hcz3_10, hfz3_0, hfz3_1, hfz3_2, hfz3_3, hfz3_4, hfz3_5, hfz3_6, hfz3_7, hfz3_8, hfz3_9, hfz3_10⟩ := c11 BK120))
 refine bodyPost_ret (results_cell_row rfl _ _ gb120 42 #[.bool a0, .slice none 0 0, .int .i64 64, .slice none 0 0, .int .i64 64, .string (⟨#[]⟩ : ByteArray), .slice none 0 0, .int .i64 16, .int .i64 16, .slice none 0 0, .bool false] (0, 0) _ rfl (zp BK120) Try.underlying42 rfl (by kernel_rfl)) rfl ?_
 exact ⟨_, _, _, _, ze, by first | exact Kd.R_nil _ _ _ _ _ | exact Kd.N_nil _ _ _ _ _ | exact Kd.V_nil _ _ _ _ _ | exact Kd.Q_nil _ _ _ _ _ | exact Kd.S_nil _ _ _ _ _, by first | exact Kd.R_nil _ _ _ _ _ | exact Kd.N_nil _ _ _ _ _ | exact Kd.V_nil _ _ _ _ _ | exact Kd.Q_nil _ _ _ _ _ | exact Kd.S_nil _ _ _ _ _, by first | exact Kd.S_nil _ _ _ _ _ | exact Kd.N_nil _ _ _ _ _ | exact Kd.V_nil _ _ _ _ _ | exact Kd.Q_nil _ _ _ _ _ | exact Kd.R_nil _ _ _ _ _, by first | exact Kd.R_nil _ _ _ _ _ | exact Kd.N_nil _ _ _ _ _ | exact Kd.V_nil _ _ _ _ _ | exact Kd.Q_nil _ _ _ _ _ | exact Kd.S_nil _ _ _ _ _, zb HB⟩

/-! ### impl_WorldNew: function 26 -/
-- by hand

def impl_WorldNew.f  : Option (Bool × (List (S88)) × Int × (List (S88)) × Int × ByteArray × (List (S104)) × Int × Int × (List (S110)) × Bool × Bool × (List (S88)) × Int × (List (S88)) × Int × ByteArray × (List (S104)) × Int × Int × (List (S110)) × Bool × ByteArray × ByteArray) := (impl_EndNew.f false).bind fun bt161 => ((impl_EndNew.f true).bind fun bt180 => (some (bt161.1, bt161.2.1, bt161.2.2.1, bt161.2.2.2.1, bt161.2.2.2.2.1, bt161.2.2.2.2.2.1, bt161.2.2.2.2.2.2.1, bt161.2.2.2.2.2.2.2.1, bt161.2.2.2.2.2.2.2.2.1, bt161.2.2.2.2.2.2.2.2.2.1, bt161.2.2.2.2.2.2.2.2.2.2, bt180.1, bt180.2.1, bt180.2.2.1, bt180.2.2.2.1, bt180.2.2.2.2.1, bt180.2.2.2.2.2.1, bt180.2.2.2.2.2.2.1, bt180.2.2.2.2.2.2.2.1, bt180.2.2.2.2.2.2.2.2.1, bt180.2.2.2.2.2.2.2.2.2.1, bt180.2.2.2.2.2.2.2.2.2.2, (⟨#[]⟩ : ByteArray), (⟨#[]⟩ : ByteArray))))
set_option maxHeartbeats 8000000 in
set_option maxRecDepth 100000 in
theorem impl_WorldNew.calls  (r1 : Bool) (r2 : List (S88)) (r3 : Int) (r4 : List (S88)) (r5 : Int) (r6 : ByteArray) (r7 : List (S104)) (r8 : Int) (r9 : Int) (r10 : List (S110)) (r11 : Bool) (r12 : Bool) (r13 : List (S88)) (r14 : Int) (r15 : List (S88)) (r16 : Int) (r17 : ByteArray) (r18 : List (S104)) (r19 : Int) (r20 : Int) (r21 : List (S110)) (r22 : Bool) (r23 : ByteArray) (r24 : ByteArray) (w : World) (h : impl_WorldNew.f  = some (r1, r2, r3, r4, r5, r6, r7, r8, r9, r10, r11, r12, r13, r14, r15, r16, r17, r18, r19, r20, r21, r22, r23, r24)) :
  Calls Try.prog 26 #[] w fun e w' => ∃ v1_ v3_ v6_ v9_ v12_ v14_ v17_ v20_ : Value, e = .returned (.agg #[.bool r1, v1_, .int .i64 r3, v3_, .int .i64 r5, .string r6, v6_, .int .i64 r8, .int .i64 r9, v9_, .bool r11, .bool r12, v12_, .int .i64 r14, v14_, .int .i64 r16, .string r17, v17_, .int .i64 r19, .int .i64 r20, v20_, .bool r22, .string r23, .string r24]) ∧ Kd.R k88 88 w' w.heap.size (fun k_ => some k_ ≠ (v3_ : Value).ownBlock ∧ some k_ ≠ (v12_ : Value).ownBlock ∧ some k_ ≠ (v14_ : Value).ownBlock) v1_ r2 ∧ Kd.R k88 88 w' w.heap.size (fun k_ => some k_ ≠ (v1_ : Value).ownBlock ∧ some k_ ≠ (v12_ : Value).ownBlock ∧ some k_ ≠ (v14_ : Value).ownBlock) v3_ r4 ∧ Kd.S k104 104 w' w.heap.size (fun k_ => some k_ ≠ (v1_ : Value).ownBlock ∧ some k_ ≠ (v3_ : Value).ownBlock ∧ some k_ ≠ (v12_ : Value).ownBlock ∧ some k_ ≠ (v14_ : Value).ownBlock ∧ some k_ ≠ (v17_ : Value).ownBlock) v6_ r7 ∧ Kd.R k110 110 w' w.heap.size (fun k_ => some k_ ≠ (v20_ : Value).ownBlock) v9_ r10 ∧ Kd.R k88 88 w' w.heap.size (fun k_ => some k_ ≠ (v1_ : Value).ownBlock ∧ some k_ ≠ (v3_ : Value).ownBlock ∧ some k_ ≠ (v14_ : Value).ownBlock) v12_ r13 ∧ Kd.R k88 88 w' w.heap.size (fun k_ => some k_ ≠ (v1_ : Value).ownBlock ∧ some k_ ≠ (v3_ : Value).ownBlock ∧ some k_ ≠ (v12_ : Value).ownBlock) v14_ r15 ∧ Kd.S k104 104 w' w.heap.size (fun k_ => some k_ ≠ (v1_ : Value).ownBlock ∧ some k_ ≠ (v3_ : Value).ownBlock ∧ some k_ ≠ (v6_ : Value).ownBlock ∧ some k_ ≠ (v12_ : Value).ownBlock ∧ some k_ ≠ (v14_ : Value).ownBlock) v17_ r18 ∧ Kd.R k110 110 w' w.heap.size (fun k_ => some k_ ≠ (v9_ : Value).ownBlock) v20_ r21 ∧ Below w.heap.size w w' := by
 have hu48 := Try.underlying48
 have HB := Aside0.mk (Below.refl w.heap.size w)
 have H : ((impl_EndNew.f false).bind fun bt161 => ((impl_EndNew.f true).bind fun bt180 => (some (bt161.1, bt161.2.1, bt161.2.2.1, bt161.2.2.2.1, bt161.2.2.2.2.1, bt161.2.2.2.2.2.1, bt161.2.2.2.2.2.2.1, bt161.2.2.2.2.2.2.2.1, bt161.2.2.2.2.2.2.2.2.1, bt161.2.2.2.2.2.2.2.2.2.1, bt161.2.2.2.2.2.2.2.2.2.2, bt180.1, bt180.2.1, bt180.2.2.1, bt180.2.2.2.1, bt180.2.2.2.2.1, bt180.2.2.2.2.2.1, bt180.2.2.2.2.2.2.1, bt180.2.2.2.2.2.2.2.1, bt180.2.2.2.2.2.2.2.2.1, bt180.2.2.2.2.2.2.2.2.2.1, bt180.2.2.2.2.2.2.2.2.2.2, (⟨#[]⟩ : ByteArray), (⟨#[]⟩ : ByteArray))))) = some (r1, r2, r3, r4, r5, r6, r7, r8, r9, r10, r11, r12, r13, r14, r15, r16, r17, r18, r19, r20, r21, r22, r23, r24) := h
 clear h
 obtain ⟨⟨t161, t162, t165, t166, t169, t170, t171, t174, t175, t176, t179⟩, A1, H⟩ := ob H
 (try dsimp only at H)
 obtain ⟨⟨t180, t181, t184, t185, t188, t189, t190, t193, t194, t195, t198⟩, A2, H⟩ := ob H
 (try dsimp only at H)
 simp only [Option.some.injEq, Prod.mk.injEq] at H
 obtain ⟨rfl, rfl, rfl, rfl, rfl, rfl, rfl, rfl, rfl, rfl, rfl, rfl, rfl, rfl, rfl, rfl, rfl, rfl, rfl, rfl, rfl, rfl, rfl, rfl⟩ := H
 go_enter Try.func26, Try.ntmps26
 go_wp2_with (first | ((with_reducible refine gd 0 rfl ?_); refine bx (N := 0) (cs := #[.bool false, .slice none 0 0, .int .i64 0, .slice none 0 0, .int .i64 0, .string (⟨#[]⟩ : ByteArray), .slice none 0 0, .int .i64 0, .int .i64 0, .slice none 0 0, .bool false, .bool false, .slice none 0 0, .int .i64 0, .slice none 0 0, .int .i64 0, .string (⟨#[]⟩ : ByteArray), .slice none 0 0, .int .i64 0, .int .i64 0, .slice none 0 0, .bool false, .string (⟨#[]⟩ : ByteArray), .string (⟨#[]⟩ : ByteArray)]) (t := 48) ?_; intro gB hg w5 hbox hb; have BKB := Aside0.mk hbox; have GWB := gw HB hg; replace HB := Aside0.mk (below_step (zb HB) hb); clear hb hbox hg) | ((with_reducible refine gd 1 rfl ?_); refine gl (some 1) Try.func21 #[.bool false] ?_; (with_reducible refine (impl_EndNew.calls false t161 t162 t165 t166 t169 t170 t171 t174 t175 t176 t179 _ A1.out).mono ?_); rintro e w7 ⟨v1a, v3a, v6a, v9a, rfl, o1, o3, o6, o9, hb⟩; refine ⟨_, rfl, ?_⟩; have O1a := Aside0.mk (Kd.R_lower o1 HB.out.size); have O3a := Aside0.mk (Kd.R_lower o3 HB.out.size); have O6a := Aside0.mk (Kd.S_lower o6 HB.out.size); have O9a := Aside0.mk (Kd.R_lower o9 HB.out.size); replace BKB := kb BKB hb; replace HB := Aside0.mk (below_step (zb HB) hb); clear hb o1 o3 o6 o9) | ((with_reducible refine gd 2 rfl ?_); refine gl (some 2) Try.func21 #[.bool true] ?_; (with_reducible refine (impl_EndNew.calls true t180 t181 t184 t185 t188 t189 t190 t193 t194 t195 t198 _ A2.out).mono ?_); rintro e w9 ⟨v1b, v3b, v6b, v9b, rfl, o1, o3, o6, o9, hb⟩; refine ⟨_, rfl, ?_⟩; replace O1a := Aside0.mk (Kd.R_old O1a.out hb); replace O3a := Aside0.mk (Kd.R_old O3a.out hb); replace O6a := Aside0.mk (Kd.S_old O6a.out hb); replace O9a := Aside0.mk (Kd.R_old O9a.out hb); have O1b := Aside0.mk (newR o1 HB.out.size); have O3b := Aside0.mk (newR o3 HB.out.size); have O6b := Aside0.mk (newS o6 HB.out.size); have O9b := Aside0.mk (newR o9 HB.out.size); replace BKB := kb BKB hb; replace HB := Aside0.mk (below_step (zb HB) hb); clear hb o1 o3 o6 o9) | ((with_reducible refine gate_store (t := 48) (p := 0) rfl ?_); refine sd BKB 0 ([.bool t161, v1a, .int .i64 t165, v3a, .int .i64 t169, .string t170, v6a, .int .i64 t174, .int .i64 t175, v9a, .bool t179, .bool t180, v1b, .int .i64 t184, v3b, .int .i64 t188, .string t189, v6b, .int .i64 t193, .int .i64 t194, v9b, .bool t198, .string (⟨#[]⟩ : ByteArray), .string (⟨#[]⟩ : ByteArray)] : List Value) #[.bool t161, v1a, .int .i64 t165, v3a, .int .i64 t169, .string t170, v6a, .int .i64 t174, .int .i64 t175, v9a, .bool t179, .bool t180, v1b, .int .i64 t184, v3b, .int .i64 t188, .string t189, v6b, .int .i64 t193, .int .i64 t194, v9b, .bool t198, .string (⟨#[]⟩ : ByteArray), .string (⟨#[]⟩ : ByteArray)] ?_ ?h1; (case h1 => (have q1a := ocR O1a.out); (have q3a := ocR O3a.out); (have q6a := ocS O6a.out); (have q9a := ocR O9a.out); (have q1b := ocR O1b.out); (have q3b := ocR O3b.out); (have q6b := ocS O6b.out); (have q9b := ocR O9b.out); intro u hu; simp only [List.mem_cons, List.not_mem_nil, or_false] at hu; rcases hu with rfl | rfl | rfl | rfl | rfl | rfl | rfl | rfl | rfl | rfl | rfl | rfl | rfl | rfl | rfl | rfl | rfl | rfl | rfl | rfl | rfl | rfl | rfl | rfl <;> first | rfl | assumption); intro w11 bkb hk hlow; replace O1a := Aside0.mk (Kd.R_mono (Kd.R_keep (Kd.R_types O1a.out BKB.out (by decide)) hk (fun _ h => h.2)) (fun _ h => h.1)); replace O3a := Aside0.mk (Kd.R_mono (Kd.R_keep (Kd.R_types O3a.out BKB.out (by decide)) hk (fun _ h => h.2)) (fun _ h => h.1)); replace O6a := Aside0.mk (Kd.S_mono (Kd.S_keep (Kd.S_types O6a.out BKB.out (by decide)) hk (fun _ h => h.2)) (fun _ h => h.1)); replace O9a := Aside0.mk (Kd.R_mono (Kd.R_keep (Kd.R_types O9a.out BKB.out (by decide)) hk (fun _ h => h.2)) (fun _ h => h.1)); replace O1b := Aside0.mk (Kd.R_mono (Kd.R_keep (Kd.R_types O1b.out BKB.out (by decide)) hk (fun _ h => h.2)) (fun _ h => h.1)); replace O3b := Aside0.mk (Kd.R_mono (Kd.R_keep (Kd.R_types O3b.out BKB.out (by decide)) hk (fun _ h => h.2)) (fun _ h => h.1)); replace O6b := Aside0.mk (Kd.S_mono (Kd.S_keep (Kd.S_types O6b.out BKB.out (by decide)) hk (fun _ h => h.2)) (fun _ h => h.1)); replace O9b := Aside0.mk (Kd.R_mono (Kd.R_keep (Kd.R_types O9b.out BKB.out (by decide)) hk (fun _ h => h.2)) (fun _ h => h.1)); replace HB := Aside0.mk (hlow _ _ HB.out GWB.out); clear hk hlow))
 refine bodyPost_ret (results_cell_row rfl _ _ gB 48 #[.bool t161, v1a, .int .i64 t165, v3a, .int .i64 t169, .string t170, v6a, .int .i64 t174, .int .i64 t175, v9a, .bool t179, .bool t180, v1b, .int .i64 t184, v3b, .int .i64 t188, .string t189, v6b, .int .i64 t193, .int .i64 t194, v9b, .bool t198, .string (⟨#[]⟩ : ByteArray), .string (⟨#[]⟩ : ByteArray)] (0, 0) _ rfl bkb.out Try.underlying48 rfl (by kernel_rfl)) rfl ?_
 exact ⟨_, _, _, _, _, _, _, _, ze, Kd.R_mono O1a.out (fun k_ hk => ⟨hk.1, (fun e_ => lt_ne hk.2 (owngeR O1b.out) e_), (fun e_ => lt_ne hk.2 (owngeR O3b.out) e_)⟩), Kd.R_mono O3a.out (fun k_ hk => ⟨hk.1, (fun e_ => lt_ne hk.2 (owngeR O1b.out) e_), (fun e_ => lt_ne hk.2 (owngeR O3b.out) e_)⟩), Kd.S_mono O6a.out (fun k_ hk => ⟨hk.1.1, hk.1.2, (fun e_ => lt_ne hk.2 (owngeR O1b.out) e_), (fun e_ => lt_ne hk.2 (owngeR O3b.out) e_), (fun e_ => lt_ne hk.2 (owngeS O6b.out) e_)⟩), Kd.R_mono O9a.out (fun k_ hk => (fun e_ => lt_ne hk.2 (owngeR O9b.out) e_)), Kd.R_mono O1b.out (fun k_ hk => ⟨(fun e_ => ge_ne hk.2 (ownltR O1a.out) e_), (fun e_ => ge_ne hk.2 (ownltR O3a.out) e_), hk.1⟩), Kd.R_mono O3b.out (fun k_ hk => ⟨(fun e_ => ge_ne hk.2 (ownltR O1a.out) e_), (fun e_ => ge_ne hk.2 (ownltR O3a.out) e_), hk.1⟩), Kd.S_mono O6b.out (fun k_ hk => ⟨(fun e_ => ge_ne hk.2 (ownltR O1a.out) e_), (fun e_ => ge_ne hk.2 (ownltR O3a.out) e_), (fun e_ => ge_ne hk.2 (ownltS O6a.out) e_), hk.1.1, hk.1.2⟩), Kd.R_mono O9b.out (fun k_ hk => (fun e_ => ge_ne hk.2 (ownltR O9a.out) e_)), HB.out⟩

/-! ### laws_eqFrame: function 101 -/
-- thin
def laws_eqFrame.f (a0_0 : Int) (a0_1 : Bool) (a0_2 : Int) (a0_3 : ByteArray) (a1_0 : Int) (a1_1 : Bool) (a1_2 : Int) (a1_3 : ByteArray) : Option (Bool) := if a0_0 = a1_0 then (if (a0_1 != a1_1) = true then (some false) else (if a0_2 = a1_2 then (if a0_3.toList = a1_3.toList then (some true) else (some false)) else (some false))) else (some false)
set_option maxHeartbeats 8000000 in
set_option maxRecDepth 100000 in
theorem laws_eqFrame.calls (a0_0 : Int) (a0_1 : Bool) (a0_2 : Int) (a0_3 : ByteArray) (a1_0 : Int) (a1_1 : Bool) (a1_2 : Int) (a1_3 : ByteArray) (r : Bool) (w : World) (h : laws_eqFrame.f a0_0 a0_1 a0_2 a0_3 a1_0 a1_1 a1_2 a1_3 = some r) :
  Calls Try.prog 101 #[.agg #[.int .i64 a0_0, .bool a0_1, .int .i64 a0_2, .string a0_3], .agg #[.int .i64 a1_0, .bool a1_1, .int .i64 a1_2, .string a1_3]] w fun e w' => e = .returned (.bool r) ∧ Below w.heap.size w w' := by
 have hu110 := Try.underlying110
 have HB := Aside0.mk (Below.refl w.heap.size w)
 have H : (if a0_0 = a1_0 then (if (a0_1 != a1_1) = true then (some false) else (if a0_2 = a1_2 then (if a0_3.toList = a1_3.toList then (some true) else (some false)) else (some false))) else (some false)) = some r := h
 clear h
 have HC3 := Aside0.mk H
 clear H
 go_enter Try.func101, Try.ntmps101
 go_upto_if 9 with (first | ((with_reducible refine gd 2 rfl ?_); refine bx (N := 2) (cs := #[.int .i64 a0_0, .bool a0_1, .int .i64 a0_2, .string a0_3]) (t := 110) ?_; intro gb121 hg w4 hbox hb; have BK121 := Aside0.mk (hbox); have GW121 := gw HB hg; have GE121 := GW121; replace HB := Aside0.mk (below_step (zb HB) hb); clear hb hbox hg) | ((with_reducible refine gd 3 rfl ?_); refine bx (N := 3) (cs := #[.int .i64 a1_0, .bool a1_1, .int .i64 a1_2, .string a1_3]) (t := 110) ?_; intro gb122 hg w5 hbox hb; have BK122 := Aside0.mk (hbox); have GW122 := gw HB hg; have GE122 := GW122; replace HB := Aside0.mk (below_step (zb HB) hb); obtain ⟨NB121_122, NB122_121⟩ := nb BK121 hg; replace BK121 := kb BK121 hb; clear hb hbox hg; have hnb6 := NB121_122.out; have hnc6 := NB122_121.out; obtain ⟨hcz7_0, hcz7_1, hcz7_2, hcz7_3, hfz7_0, hfz7_1, hfz7_2, hfz7_3⟩ := c4 BK121; obtain ⟨hcz8_0, hcz8_1, hcz8_2, hcz8_3, hfz8_0, hfz8_1, hfz8_2, hfz8_3⟩ := c4 BK122))
 (try simp only [Act.put, s1, s2, s3])
 have H := HC3.out
 clear HC3
 replace H := sp H
 rcases H with ⟨c9, H⟩ | ⟨c9, H⟩
 ·skip
  have c9b0 : (a0_0 == a1_0) = true := beq_iff_eq.mpr c9
  have c9b1 : (a0_0 != a1_0) = false := bne_eq_false_iff_eq.mpr c9
  clear c9
  (first | rw [c9b0] | rw [c9b1] | rw [c9b2] | (simp only [i64_w, i32_w]; rw [c9b0]) | skip)
  by_cases c10 : (a0_1 != a1_1) = true
  ·rw [if_pos c10] at H
   have c10b0 : (a0_1 != a1_1) = true := c10
   (try (have c10b1 : decide (a0_1 = a1_1) = false := by simpa using c10))
   (try (have c10b2 : (a0_1 == a1_1) = false := by simpa using c10))
   (try (have c10b3 : ¬ (a0_1 = a1_1) := by simpa using c10))
   clear c10
   obtain rfl := Option.some.inj H
   have hnb11 := NB121_122.out
   have hnc11 := NB122_121.out
   obtain ⟨hcz12_0, hcz12_1, hcz12_2, hcz12_3, hfz12_0, hfz12_1, hfz12_2, hfz12_3⟩ := c4 BK121
   obtain ⟨hcz13_0, hcz13_1, hcz13_2, hcz13_3, hfz13_0, hfz13_1, hfz13_2, hfz13_3⟩ := c4 BK122
   go_wp2
   go_ret
   exact ⟨ze, zb HB⟩
  ·rw [if_neg c10] at H
   have c10b0 : (a0_1 != a1_1) = false := by simpa using c10
   (try (have c10b1 : decide (a0_1 = a1_1) = true := by simpa using c10))
   (try (have c10b2 : (a0_1 == a1_1) = true := by simpa using c10))
   clear c10
   by_cases c14 : a0_2 = a1_2
   ·rw [if_pos c14] at H
    have c14b0 : (a0_2 == a1_2) = true := beq_iff_eq.mpr c14
    have c14b1 : (a0_2 != a1_2) = false := bne_eq_false_iff_eq.mpr c14
    clear c14
    by_cases c15 : a0_3.toList = a1_3.toList
    ·rw [if_pos c15] at H
     have c15b0 : (a0_3.toList == a1_3.toList) = true := beq_iff_eq.mpr c15
     have c15b1 : (a0_3.toList != a1_3.toList) = false := bne_eq_false_iff_eq.mpr c15
     clear c15
     obtain rfl := Option.some.inj H
     have hnb16 := NB121_122.out
     have hnc16 := NB122_121.out
     obtain ⟨hcz17_0, hcz17_1, hcz17_2, hcz17_3, hfz17_0, hfz17_1, hfz17_2, hfz17_3⟩ := c4 BK121
     obtain ⟨hcz18_0, hcz18_1, hcz18_2, hcz18_3, hfz18_0, hfz18_1, hfz18_2, hfz18_3⟩ := c4 BK122
     go_wp2
     go_ret
     exact ⟨ze, zb HB⟩
    ·rw [if_neg c15] at H
     have c15b0 : (a0_3.toList == a1_3.toList) = false := beq_eq_false_iff_ne.mpr c15
     have c15b1 : (a0_3.toList != a1_3.toList) = true := bne_iff_ne.mpr c15
     obtain rfl := Option.some.inj H
     have hnb19 := NB121_122.out
     have hnc19 := NB122_121.out
     obtain ⟨hcz20_0, hcz20_1, hcz20_2, hcz20_3, hfz20_0, hfz20_1, hfz20_2, hfz20_3⟩ := c4 BK121
     obtain ⟨hcz21_0, hcz21_1, hcz21_2, hcz21_3, hfz21_0, hfz21_1, hfz21_2, hfz21_3⟩ := c4 BK122
     go_wp2
     go_ret
     exact ⟨ze, zb HB⟩
   ·rw [if_neg c14] at H
    have c14b0 : (a0_2 == a1_2) = false := beq_eq_false_iff_ne.mpr c14
    have c14b1 : (a0_2 != a1_2) = true := bne_iff_ne.mpr c14
    obtain rfl := Option.some.inj H
    have hnb22 := NB121_122.out
    have hnc22 := NB122_121.out
    obtain ⟨hcz23_0, hcz23_1, hcz23_2, hcz23_3, hfz23_0, hfz23_1, hfz23_2, hfz23_3⟩ := c4 BK121
    obtain ⟨hcz24_0, hcz24_1, hcz24_2, hcz24_3, hfz24_0, hfz24_1, hfz24_2, hfz24_3⟩ := c4 BK122
    go_wp2
    go_ret
    exact ⟨ze, zb HB⟩
 ·skip
  have c9b0 : (a0_0 == a1_0) = false := beq_eq_false_iff_ne.mpr c9
  have c9b1 : (a0_0 != a1_0) = true := bne_iff_ne.mpr c9
  (first | rw [c9b0] | rw [c9b1] | rw [c9b2] | (simp only [i64_w, i32_w]; rw [c9b0]) | skip)
  obtain rfl := Option.some.inj H
  go_wp2
  go_ret
  exact ⟨ze, zb HB⟩

/-! ### laws_eqFrameS: function 44 -/
-- thin
def laws_eqFrameS.l0 : Nat → List (S110) → List (S110) → Int → Option (Bool)
 | 0, _, _, _ => none
 | k + 1, x0, x1, x5 => if x5 < (x0.length : Int) then (if 0 ≤ x5 then (if x5 < (x1.length : Int) then ((laws_eqFrame.f ((rd_T110 x0 x5).f0) ((rd_T110 x0 x5).f1) ((rd_T110 x0 x5).f2) ((rd_T110 x0 x5).f3) ((rd_T110 x1 x5).f0) ((rd_T110 x1 x5).f1) ((rd_T110 x1 x5).f2) ((rd_T110 x1 x5).f3)).bind fun t125 => (if t125 = true then (laws_eqFrameS.l0 k x0 x1 (wrap64 (x5 + 1))) else (some false))) else (none)) else (none)) else (some true)
def laws_eqFrameS.f (k : Nat) (l0 : List (S110)) (l1 : List (S110)) : Option (Bool) := if (l0.length : Int) = (l1.length : Int) then (laws_eqFrameS.l0 k l0 l1 0) else (some false)
theorem laws_eqFrameS.mono_l : ∀ k, (∀ y0 y1 y2, LeO (laws_eqFrameS.l0 k y0 y1 y2) (laws_eqFrameS.l0 (k + 1) y0 y1 y2))
 | 0 => fun _ _ _ r h => by simp [laws_eqFrameS.l0] at h
 | k + 1 => by
  have ih0 := laws_eqFrameS.mono_l k
  ·intro y0 y1 y2
   unfold laws_eqFrameS.l0
   exact zm
theorem laws_eqFrameS.mono : ∀ a0 a1 k, LeO (laws_eqFrameS.f k a0 a1) (laws_eqFrameS.f (k + 1) a0 a1) := by
 intro a0 a1 k
 have ih0 := laws_eqFrameS.mono_l k
 unfold laws_eqFrameS.f
 exact zm
def laws_eqFrameS.T6 : Bool × List (List Nat × List Nat) := (true, [([], []), ([], []), ([0, 1], [0, 1]), ([2], [2]), ([], []), ([], []), ([4, 5], [4, 5]), ([6], [6]), ([3, 7], [3, 7]), ([8], [8])])
def laws_eqFrameS.B6 : List Nat := [0, 0, 3, 7, 0, 0, 48, 112, 255, 511]
theorem laws_eqFrameS.tab6 : rtab .any (opsOf Try.f44 6) = laws_eqFrameS.T6 := by kernel_rfl
theorem laws_eqFrameS.bits6 : waitsOk laws_eqFrameS.T6.2 laws_eqFrameS.B6 = true := by kernel_rfl
set_option maxHeartbeats 8000000 in
set_option maxRecDepth 100000 in
theorem laws_eqFrameS.calls (k : Nat) (A0 : Option Addr) (c0 : Nat) (l0 : List (S110)) (A1 : Option Addr) (c1 : Nat) (l1 : List (S110)) (r : Bool) (w : World) (hr0 : Kd.C k110 w A0 l0.length l0) (hc0 : l0.length ≤ c0) (hr1 : Kd.C k110 w A1 l1.length l1) (hc1 : l1.length ≤ c1) (h : laws_eqFrameS.f k l0 l1 = some r) :
  Calls Try.prog 44 #[.slice A0 l0.length c0, .slice A1 l1.length c1] w fun e w' => e = .returned (.bool r) ∧ Below w.heap.size w w' := by
 have hu110 := Try.underlying110
 have HR0 := Aside0.mk hr0
 have HC0 := Aside0.mk hc0
 clear hr0 hc0
 have HR1 := Aside0.mk hr1
 have HC1 := Aside0.mk hc1
 clear hr1 hc1
 have HB := Aside0.mk (Below.refl w.heap.size w)
 have H : (if (l0.length : Int) = (l1.length : Int) then (laws_eqFrameS.l0 k l0 l1 0) else (some false)) = some r := h
 clear h
 replace H := sp H
 rcases H with ⟨c3, H⟩ | ⟨c3, H⟩
 ·skip
  have c3b0 : ((l0.length : Int) == (l1.length : Int)) = true := beq_iff_eq.mpr c3
  have c3b1 : ((l0.length : Int) != (l1.length : Int)) = false := bne_eq_false_iff_eq.mpr c3
  have c3b2 : (l0.length == l1.length) = true := by first | simpa using c3 | (simp at c3 ⊢; omega)
  clear c3
  have H' := Aside0.mk H
  clear H
  go_enter Try.func44, Try.ntmps44
  go_wp2
  go_loopg [5] k (fun kq v5 w' => ∃ (x5_1 : Int), v5 = .int .i64 x5_1 ∧ Aside0 (laws_eqFrameS.l0 kq l0 l1 x5_1 = some r) ∧ Aside0 (kq ≤ k) ∧ Aside0 (Below w.heap.size w w'))
  case atStart => exact ⟨(0), zs, H', ⟨Nat.le_refl _⟩, ⟨zb HB⟩⟩
  case round =>
   clear H'
   try clear c1
   try clear p2
   try clear c3
   try clear c3b0
   try clear c3b1
   try clear c3b2
   obtain ⟨x5_1, rfl, HA, HK1, HB⟩ := hrel
   cases gk with
   | zero => exact absurd HA.out (by simp [laws_eqFrameS.l0])
   | succ k1 =>
    have H := HA.out
    clear HA
    simp only [laws_eqFrameS.l0] at H
    by_cases c4 : x5_1 < (l0.length : Int)
    ·rw [if_pos c4] at H
     have c4b0 := decide_eq_true c4
     clear c4
     by_cases c5 : 0 ≤ x5_1
     ·rw [if_pos c5] at H
      have c5b0 := decide_eq_true c5
      clear c5
      by_cases c6 : x5_1 < (l1.length : Int)
      ·rw [if_pos c6] at H
       have c6b0 := decide_eq_true c6
       clear c6
       obtain ⟨t125, A7, H⟩ := ob H
       (try dsimp only at H)
       have HC8 := Aside0.mk H
       clear H
       try go_wp2
       replace HB := Aside0.mk (below_drew1 HB.out)
       have p123 : 0 ≤ (x5_1 : Int) := of_decide_eq_true za
       have q123 : x5_1 < (l0.length : Int) := of_decide_eq_true za
       obtain ⟨ad123, e123, hx123_0, hx123_1, hx123_2, hx123_3⟩ := at_T110 HR0.out x5_1 p123 q123
       have hw123_3 := hx123_3
       have hw123_2 := hx123_2
       have hw123_1 := hx123_1
       have hw123_0 := hx123_0
       cases e123
       replace hx123_0 := cb0 hx123_0 HB
       replace hx123_1 := cb0 hx123_1 HB
       replace hx123_2 := cb0 hx123_2 HB
       replace hx123_3 := cb0 hx123_3 HB
       replace p123 := eq_true p123
       replace q123 := eq_true q123
       have p124 : 0 ≤ (x5_1 : Int) := of_decide_eq_true za
       have q124 : x5_1 < (l1.length : Int) := of_decide_eq_true za
       obtain ⟨ad124, e124, hx124_0, hx124_1, hx124_2, hx124_3⟩ := at_T110 HR1.out x5_1 p124 q124
       have hw124_3 := hx124_3
       have hw124_2 := hx124_2
       have hw124_1 := hx124_1
       have hw124_0 := hx124_0
       cases e124
       replace hx124_0 := cb0 hx124_0 HB
       replace hx124_1 := cb0 hx124_1 HB
       replace hx124_2 := cb0 hx124_2 HB
       replace hx124_3 := cb0 hx124_3 HB
       replace p124 := eq_true p124
       replace q124 := eq_true q124
       refine st 10 (an (cb hw123_0 HB) (an (cb hw123_1 HB) (an (cb hw123_2 HB) (an (cb hw123_3 HB) (an (cb hw124_0 HB) (an (cb hw124_1 HB) (an (cb hw124_2 HB) (cb hw124_3 HB)))))))) (fun hHeld => ?_); refine with_tabW laws_eqFrameS.tab6 laws_eqFrameS.bits6 (fun HT_ HW_ => ?_)
       generalize wr.drew = w9 at HB hx123_0 hx123_1 hx123_2 hx123_3 hx124_0 hx124_1 hx124_2 hx124_3 hHeld ⊢
       refine pu 0 (some 17) (bm 10 1) rfl rfl ?_
       refine pu 1 (some 18) (bm 10 3) rfl rfl ?_
       refine pu 2 (some 19) (bm 10 7) rfl rfl ?_
       refine pu 4 (some 21) (bm 10 23) rfl rfl ?_
       refine pu 5 (some 22) (bm 10 55) rfl rfl ?_
       refine pu 6 (some 23) (bm 10 119) rfl rfl ?_
       refine tk 3 (some 20) (bm 10 127) rfl rfl hHeld ?_
       refine tk 7 (some 24) (bm 10 255) rfl rfl hHeld ?_
       refine one_ (i := 8) (N := some 25) (bm 10 511) rfl rfl (one_of HT_.out (by kernel_rfl)) (by decide) (fun K hK => ?_)
       refine gs Try.func101 #[.agg #[.int .i64 ((rd_T110 l0 x5_1).f0), .bool ((rd_T110 l0 x5_1).f1), .int .i64 ((rd_T110 l0 x5_1).f2), .string ((rd_T110 l0 x5_1).f3)], .agg #[.int .i64 ((rd_T110 l1 x5_1).f0), .bool ((rd_T110 l1 x5_1).f1), .int .i64 ((rd_T110 l1 x5_1).f2), .string ((rd_T110 l1 x5_1).f3)]] ?_
       with_reducible refine (laws_eqFrame.calls ((rd_T110 l0 x5_1).f0) ((rd_T110 l0 x5_1).f1) ((rd_T110 l0 x5_1).f2) ((rd_T110 l0 x5_1).f3) ((rd_T110 l1 x5_1).f0) ((rd_T110 l1 x5_1).f1) ((rd_T110 l1 x5_1).f2) ((rd_T110 l1 x5_1).f3) t125 _ A7.out).mono ?_
       rintro e w10 ⟨rfl, hb⟩
       refine ⟨_, rfl, ?_⟩
       replace HB := Aside0.mk (below_step (zb HB) hb)
       (try clear hb)
       refine hK.out _ _ (an (cb hw123_0 HB) (an (cb hw123_1 HB) (an (cb hw123_2 HB) (an (cb hw123_3 HB) (an (cb hw124_0 HB) (an (cb hw124_1 HB) (an (cb hw124_2 HB) (cb hw124_3 HB)))))))) (fun hHeld => ?_)
       clear hK K
       refine nm ?_
       refine pu 9 (some 26) (bm 10 1023) rfl rfl ?_
       refine done_ (done_of HT_.out (by kernel_rfl)) ?_
       go_upto_if 26 with (fail)
       have H := HC8.out
       clear HC8
       by_cases c11 : t125 = true
       ·subst c11
        rw [if_pos rfl] at H
        have H' := Aside0.mk H
        clear H
        go_wp2
        go_roundg k1
        case measure => have := HK1.out; omega
        case rel => exact ⟨(wrap64 (x5_1 + 1)), zs, H', ⟨by have := HK1.out; omega⟩, ⟨zb HB⟩⟩
       ·replace c11 := Bool.eq_false_iff.mpr c11
        subst c11
        rw [if_neg (show ¬ (false = true) by decide)] at H
        obtain rfl := Option.some.inj H
        go_wp2
        go_ret
        exact ⟨ze, zb HB⟩
      ·rw [if_neg c6] at H
       exact absurd H (by simp)
     ·rw [if_neg c5] at H
      exact absurd H (by simp)
    ·rw [if_neg c4] at H
     have c4b0 := decide_eq_false c4
     clear c4
     obtain rfl := Option.some.inj H
     go_wp2
     go_ret
     exact ⟨ze, zb HB⟩
 ·skip
  have c3b0 : ((l0.length : Int) == (l1.length : Int)) = false := beq_eq_false_iff_ne.mpr c3
  have c3b1 : ((l0.length : Int) != (l1.length : Int)) = true := bne_iff_ne.mpr c3
  have c3b2 : (l0.length == l1.length) = false := by first | simpa using c3 | (simp at c3 ⊢; omega)
  obtain rfl := Option.some.inj H
  go_enter Try.func44, Try.ntmps44
  go_wp2
  go_ret
  exact ⟨ze, zb HB⟩

/-! ### laws_eqField: function 154 -/
-- thin
def laws_eqField.f (a0_0 : ByteArray) (a0_1 : ByteArray) (a0_2 : Bool) (a1_0 : ByteArray) (a1_1 : ByteArray) (a1_2 : Bool) : Option (Bool) := if a0_0.toList = a1_0.toList then (if a0_1.toList = a1_1.toList then (if (a0_2 != a1_2) = true then (some false) else (some true)) else (some false)) else (some false)
set_option maxHeartbeats 8000000 in
set_option maxRecDepth 100000 in
theorem laws_eqField.calls (a0_0 : ByteArray) (a0_1 : ByteArray) (a0_2 : Bool) (a1_0 : ByteArray) (a1_1 : ByteArray) (a1_2 : Bool) (r : Bool) (w : World) (h : laws_eqField.f a0_0 a0_1 a0_2 a1_0 a1_1 a1_2 = some r) :
  Calls Try.prog 154 #[.agg #[.string a0_0, .string a0_1, .bool a0_2], .agg #[.string a1_0, .string a1_1, .bool a1_2]] w fun e w' => e = .returned (.bool r) ∧ Below w.heap.size w w' := by
 have hu88 := Try.underlying88
 have HB := Aside0.mk (Below.refl w.heap.size w)
 have H : (if a0_0.toList = a1_0.toList then (if a0_1.toList = a1_1.toList then (if (a0_2 != a1_2) = true then (some false) else (some true)) else (some false)) else (some false)) = some r := h
 clear h
 have HC3 := Aside0.mk H
 clear H
 go_enter Try.func154, Try.ntmps154
 go_upto_if 9 with (first | ((with_reducible refine gd 2 rfl ?_); refine bx (N := 2) (cs := #[.string a0_0, .string a0_1, .bool a0_2]) (t := 88) ?_; intro gb126 hg w4 hbox hb; have BK126 := Aside0.mk (hbox); have GW126 := gw HB hg; have GE126 := GW126; replace HB := Aside0.mk (below_step (zb HB) hb); clear hb hbox hg) | ((with_reducible refine gd 3 rfl ?_); refine bx (N := 3) (cs := #[.string a1_0, .string a1_1, .bool a1_2]) (t := 88) ?_; intro gb127 hg w5 hbox hb; have BK127 := Aside0.mk (hbox); have GW127 := gw HB hg; have GE127 := GW127; replace HB := Aside0.mk (below_step (zb HB) hb); obtain ⟨NB126_127, NB127_126⟩ := nb BK126 hg; replace BK126 := kb BK126 hb; clear hb hbox hg; have hnb6 := NB126_127.out; have hnc6 := NB127_126.out; obtain ⟨hcz7_0, hcz7_1, hcz7_2, hfz7_0, hfz7_1, hfz7_2⟩ := c3 BK126; obtain ⟨hcz8_0, hcz8_1, hcz8_2, hfz8_0, hfz8_1, hfz8_2⟩ := c3 BK127))
 (try simp only [Act.put, s1, s2, s3])
 have H := HC3.out
 clear HC3
 replace H := sp H
 rcases H with ⟨c9, H⟩ | ⟨c9, H⟩
 ·skip
  have c9b0 : (a0_0.toList == a1_0.toList) = true := beq_iff_eq.mpr c9
  have c9b1 : (a0_0.toList != a1_0.toList) = false := bne_eq_false_iff_eq.mpr c9
  clear c9
  (first | rw [c9b0] | rw [c9b1] | rw [c9b2] | (simp only [i64_w, i32_w]; rw [c9b0]) | skip)
  by_cases c10 : a0_1.toList = a1_1.toList
  ·rw [if_pos c10] at H
   have c10b0 : (a0_1.toList == a1_1.toList) = true := beq_iff_eq.mpr c10
   have c10b1 : (a0_1.toList != a1_1.toList) = false := bne_eq_false_iff_eq.mpr c10
   clear c10
   by_cases c11 : (a0_2 != a1_2) = true
   ·rw [if_pos c11] at H
    have c11b0 : (a0_2 != a1_2) = true := c11
    (try (have c11b1 : decide (a0_2 = a1_2) = false := by simpa using c11))
    (try (have c11b2 : (a0_2 == a1_2) = false := by simpa using c11))
    (try (have c11b3 : ¬ (a0_2 = a1_2) := by simpa using c11))
    clear c11
    obtain rfl := Option.some.inj H
    have hnb12 := NB126_127.out
    have hnc12 := NB127_126.out
    obtain ⟨hcz13_0, hcz13_1, hcz13_2, hfz13_0, hfz13_1, hfz13_2⟩ := c3 BK126
    obtain ⟨hcz14_0, hcz14_1, hcz14_2, hfz14_0, hfz14_1, hfz14_2⟩ := c3 BK127
    go_wp2
    go_ret
    exact ⟨ze, zb HB⟩
   ·rw [if_neg c11] at H
    have c11b0 : (a0_2 != a1_2) = false := by simpa using c11
    (try (have c11b1 : decide (a0_2 = a1_2) = true := by simpa using c11))
    (try (have c11b2 : (a0_2 == a1_2) = true := by simpa using c11))
    clear c11
    obtain rfl := Option.some.inj H
    have hnb15 := NB126_127.out
    have hnc15 := NB127_126.out
    obtain ⟨hcz16_0, hcz16_1, hcz16_2, hfz16_0, hfz16_1, hfz16_2⟩ := c3 BK126
    obtain ⟨hcz17_0, hcz17_1, hcz17_2, hfz17_0, hfz17_1, hfz17_2⟩ := c3 BK127
    go_wp2
    go_ret
    exact ⟨ze, zb HB⟩
  ·rw [if_neg c10] at H
   have c10b0 : (a0_1.toList == a1_1.toList) = false := beq_eq_false_iff_ne.mpr c10
   have c10b1 : (a0_1.toList != a1_1.toList) = true := bne_iff_ne.mpr c10
   obtain rfl := Option.some.inj H
   have hnb18 := NB126_127.out
   have hnc18 := NB127_126.out
   obtain ⟨hcz19_0, hcz19_1, hcz19_2, hfz19_0, hfz19_1, hfz19_2⟩ := c3 BK126
   obtain ⟨hcz20_0, hcz20_1, hcz20_2, hfz20_0, hfz20_1, hfz20_2⟩ := c3 BK127
   go_wp2
   go_ret
   exact ⟨ze, zb HB⟩
 ·skip
  have c9b0 : (a0_0.toList == a1_0.toList) = false := beq_eq_false_iff_ne.mpr c9
  have c9b1 : (a0_0.toList != a1_0.toList) = true := bne_iff_ne.mpr c9
  (first | rw [c9b0] | rw [c9b1] | rw [c9b2] | (simp only [i64_w, i32_w]; rw [c9b0]) | skip)
  obtain rfl := Option.some.inj H
  go_wp2
  go_ret
  exact ⟨ze, zb HB⟩

/-! ### laws_eqFieldS: function 123 -/
-- thin
def laws_eqFieldS.l0 : Nat → List (S88) → List (S88) → Int → Option (Bool)
 | 0, _, _, _ => none
 | k + 1, x0, x1, x5 => if x5 < (x0.length : Int) then (if 0 ≤ x5 then (if x5 < (x1.length : Int) then ((laws_eqField.f ((rd_T88 x0 x5).f0) ((rd_T88 x0 x5).f1) ((rd_T88 x0 x5).f2) ((rd_T88 x1 x5).f0) ((rd_T88 x1 x5).f1) ((rd_T88 x1 x5).f2)).bind fun t130 => (if t130 = true then (laws_eqFieldS.l0 k x0 x1 (wrap64 (x5 + 1))) else (some false))) else (none)) else (none)) else (some true)
def laws_eqFieldS.f (k : Nat) (l0 : List (S88)) (l1 : List (S88)) : Option (Bool) := if (l0.length : Int) = (l1.length : Int) then (laws_eqFieldS.l0 k l0 l1 0) else (some false)
theorem laws_eqFieldS.mono_l : ∀ k, (∀ y0 y1 y2, LeO (laws_eqFieldS.l0 k y0 y1 y2) (laws_eqFieldS.l0 (k + 1) y0 y1 y2))
 | 0 => fun _ _ _ r h => by simp [laws_eqFieldS.l0] at h
 | k + 1 => by
  have ih0 := laws_eqFieldS.mono_l k
  ·intro y0 y1 y2
   unfold laws_eqFieldS.l0
   exact zm
theorem laws_eqFieldS.mono : ∀ a0 a1 k, LeO (laws_eqFieldS.f k a0 a1) (laws_eqFieldS.f (k + 1) a0 a1) := by
 intro a0 a1 k
 have ih0 := laws_eqFieldS.mono_l k
 unfold laws_eqFieldS.f
 exact zm
def laws_eqFieldS.T6 : Bool × List (List Nat × List Nat) := (true, [([], []), ([], []), ([0, 1], [0, 1]), ([2], [2]), ([], []), ([], []), ([4, 5], [4, 5]), ([6], [6]), ([3, 7], [3, 7]), ([8], [8])])
def laws_eqFieldS.B6 : List Nat := [0, 0, 3, 7, 0, 0, 48, 112, 255, 511]
theorem laws_eqFieldS.tab6 : rtab .any (opsOf Try.f123 6) = laws_eqFieldS.T6 := by kernel_rfl
theorem laws_eqFieldS.bits6 : waitsOk laws_eqFieldS.T6.2 laws_eqFieldS.B6 = true := by kernel_rfl
set_option maxHeartbeats 8000000 in
set_option maxRecDepth 100000 in
theorem laws_eqFieldS.calls (k : Nat) (A0 : Option Addr) (c0 : Nat) (l0 : List (S88)) (A1 : Option Addr) (c1 : Nat) (l1 : List (S88)) (r : Bool) (w : World) (hr0 : Kd.C k88 w A0 l0.length l0) (hc0 : l0.length ≤ c0) (hr1 : Kd.C k88 w A1 l1.length l1) (hc1 : l1.length ≤ c1) (h : laws_eqFieldS.f k l0 l1 = some r) :
  Calls Try.prog 123 #[.slice A0 l0.length c0, .slice A1 l1.length c1] w fun e w' => e = .returned (.bool r) ∧ Below w.heap.size w w' := by
 have hu88 := Try.underlying88
 have HR0 := Aside0.mk hr0
 have HC0 := Aside0.mk hc0
 clear hr0 hc0
 have HR1 := Aside0.mk hr1
 have HC1 := Aside0.mk hc1
 clear hr1 hc1
 have HB := Aside0.mk (Below.refl w.heap.size w)
 have H : (if (l0.length : Int) = (l1.length : Int) then (laws_eqFieldS.l0 k l0 l1 0) else (some false)) = some r := h
 clear h
 replace H := sp H
 rcases H with ⟨c3, H⟩ | ⟨c3, H⟩
 ·skip
  have c3b0 : ((l0.length : Int) == (l1.length : Int)) = true := beq_iff_eq.mpr c3
  have c3b1 : ((l0.length : Int) != (l1.length : Int)) = false := bne_eq_false_iff_eq.mpr c3
  have c3b2 : (l0.length == l1.length) = true := by first | simpa using c3 | (simp at c3 ⊢; omega)
  clear c3
  have H' := Aside0.mk H
  clear H
  go_enter Try.func123, Try.ntmps123
  go_wp2
  go_loopg [5] k (fun kq v5 w' => ∃ (x5_1 : Int), v5 = .int .i64 x5_1 ∧ Aside0 (laws_eqFieldS.l0 kq l0 l1 x5_1 = some r) ∧ Aside0 (kq ≤ k) ∧ Aside0 (Below w.heap.size w w'))
  case atStart => exact ⟨(0), zs, H', ⟨Nat.le_refl _⟩, ⟨zb HB⟩⟩
  case round =>
   clear H'
   try clear c1
   try clear p2
   try clear c3
   try clear c3b0
   try clear c3b1
   try clear c3b2
   obtain ⟨x5_1, rfl, HA, HK1, HB⟩ := hrel
   cases gk with
   | zero => exact absurd HA.out (by simp [laws_eqFieldS.l0])
   | succ k1 =>
    have H := HA.out
    clear HA
    simp only [laws_eqFieldS.l0] at H
    by_cases c4 : x5_1 < (l0.length : Int)
    ·rw [if_pos c4] at H
     have c4b0 := decide_eq_true c4
     clear c4
     by_cases c5 : 0 ≤ x5_1
     ·rw [if_pos c5] at H
      have c5b0 := decide_eq_true c5
      clear c5
      by_cases c6 : x5_1 < (l1.length : Int)
      ·rw [if_pos c6] at H
       have c6b0 := decide_eq_true c6
       clear c6
       obtain ⟨t130, A7, H⟩ := ob H
       (try dsimp only at H)
       have HC8 := Aside0.mk H
       clear H
       try go_wp2
       replace HB := Aside0.mk (below_drew1 HB.out)
       have p128 : 0 ≤ (x5_1 : Int) := of_decide_eq_true za
       have q128 : x5_1 < (l0.length : Int) := of_decide_eq_true za
       obtain ⟨ad128, e128, hx128_0, hx128_1, hx128_2⟩ := at_T88 HR0.out x5_1 p128 q128
       have hw128_2 := hx128_2
       have hw128_1 := hx128_1
       have hw128_0 := hx128_0
       cases e128
       replace hx128_0 := cb0 hx128_0 HB
       replace hx128_1 := cb0 hx128_1 HB
       replace hx128_2 := cb0 hx128_2 HB
       replace p128 := eq_true p128
       replace q128 := eq_true q128
       have p129 : 0 ≤ (x5_1 : Int) := of_decide_eq_true za
       have q129 : x5_1 < (l1.length : Int) := of_decide_eq_true za
       obtain ⟨ad129, e129, hx129_0, hx129_1, hx129_2⟩ := at_T88 HR1.out x5_1 p129 q129
       have hw129_2 := hx129_2
       have hw129_1 := hx129_1
       have hw129_0 := hx129_0
       cases e129
       replace hx129_0 := cb0 hx129_0 HB
       replace hx129_1 := cb0 hx129_1 HB
       replace hx129_2 := cb0 hx129_2 HB
       replace p129 := eq_true p129
       replace q129 := eq_true q129
       refine st 10 (an (cb hw128_0 HB) (an (cb hw128_1 HB) (an (cb hw128_2 HB) (an (cb hw129_0 HB) (an (cb hw129_1 HB) (cb hw129_2 HB)))))) (fun hHeld => ?_); refine with_tabW laws_eqFieldS.tab6 laws_eqFieldS.bits6 (fun HT_ HW_ => ?_)
       generalize wr.drew = w9 at HB hx128_0 hx128_1 hx128_2 hx129_0 hx129_1 hx129_2 hHeld ⊢
       refine pu 0 (some 17) (bm 10 1) rfl rfl ?_
       refine pu 1 (some 18) (bm 10 3) rfl rfl ?_
       refine pu 2 (some 19) (bm 10 7) rfl rfl ?_
       refine pu 4 (some 21) (bm 10 23) rfl rfl ?_
       refine pu 5 (some 22) (bm 10 55) rfl rfl ?_
       refine pu 6 (some 23) (bm 10 119) rfl rfl ?_
       refine tk 3 (some 20) (bm 10 127) rfl rfl hHeld ?_
       refine tk 7 (some 24) (bm 10 255) rfl rfl hHeld ?_
       refine one_ (i := 8) (N := some 25) (bm 10 511) rfl rfl (one_of HT_.out (by kernel_rfl)) (by decide) (fun K hK => ?_)
       refine gs Try.func154 #[.agg #[.string ((rd_T88 l0 x5_1).f0), .string ((rd_T88 l0 x5_1).f1), .bool ((rd_T88 l0 x5_1).f2)], .agg #[.string ((rd_T88 l1 x5_1).f0), .string ((rd_T88 l1 x5_1).f1), .bool ((rd_T88 l1 x5_1).f2)]] ?_
       with_reducible refine (laws_eqField.calls ((rd_T88 l0 x5_1).f0) ((rd_T88 l0 x5_1).f1) ((rd_T88 l0 x5_1).f2) ((rd_T88 l1 x5_1).f0) ((rd_T88 l1 x5_1).f1) ((rd_T88 l1 x5_1).f2) t130 _ A7.out).mono ?_
       rintro e w10 ⟨rfl, hb⟩
       refine ⟨_, rfl, ?_⟩
       replace HB := Aside0.mk (below_step (zb HB) hb)
       (try clear hb)
       refine hK.out _ _ (an (cb hw128_0 HB) (an (cb hw128_1 HB) (an (cb hw128_2 HB) (an (cb hw129_0 HB) (an (cb hw129_1 HB) (cb hw129_2 HB)))))) (fun hHeld => ?_)
       clear hK K
       refine nm ?_
       refine pu 9 (some 26) (bm 10 1023) rfl rfl ?_
       refine done_ (done_of HT_.out (by kernel_rfl)) ?_
       go_upto_if 26 with (fail)
       have H := HC8.out
       clear HC8
       by_cases c11 : t130 = true
       ·subst c11
        rw [if_pos rfl] at H
        have H' := Aside0.mk H
        clear H
        go_wp2
        go_roundg k1
        case measure => have := HK1.out; omega
        case rel => exact ⟨(wrap64 (x5_1 + 1)), zs, H', ⟨by have := HK1.out; omega⟩, ⟨zb HB⟩⟩
       ·replace c11 := Bool.eq_false_iff.mpr c11
        subst c11
        rw [if_neg (show ¬ (false = true) by decide)] at H
        obtain rfl := Option.some.inj H
        go_wp2
        go_ret
        exact ⟨ze, zb HB⟩
      ·rw [if_neg c6] at H
       exact absurd H (by simp)
     ·rw [if_neg c5] at H
      exact absurd H (by simp)
    ·rw [if_neg c4] at H
     have c4b0 := decide_eq_false c4
     clear c4
     obtain rfl := Option.some.inj H
     go_wp2
     go_ret
     exact ⟨ze, zb HB⟩
 ·skip
  have c3b0 : ((l0.length : Int) == (l1.length : Int)) = false := beq_eq_false_iff_ne.mpr c3
  have c3b1 : ((l0.length : Int) != (l1.length : Int)) = true := bne_iff_ne.mpr c3
  have c3b2 : (l0.length == l1.length) = false := by first | simpa using c3 | (simp at c3 ⊢; omega)
  obtain rfl := Option.some.inj H
  go_enter Try.func123, Try.ntmps123
  go_wp2
  go_ret
  exact ⟨ze, zb HB⟩

/-! ### laws_eqTable: function 67 -/
-- thin
def laws_eqTable.f (k : Nat) (l0_0 : List (S88)) (a0_1 : Int) (l1_0 : List (S88)) (a1_1 : Int) : Option (Bool) := (laws_eqFieldS.f k l0_0 l1_0).bind fun t133 => (if t133 = true then (if a0_1 = a1_1 then (some true) else (some false)) else (some false))
theorem laws_eqTable.mono : ∀ a0 a1 a2 a3 k, LeO (laws_eqTable.f k a0 a1 a2 a3) (laws_eqTable.f (k + 1) a0 a1 a2 a3) := by
 intro a0 a1 a2 a3 k
 unfold laws_eqTable.f
 have m0 := @laws_eqFieldS.mono
 exact zm
set_option maxHeartbeats 8000000 in
set_option maxRecDepth 100000 in
theorem laws_eqTable.calls (k : Nat) (A0_0 : Option Addr) (c0_0 : Nat) (l0_0 : List (S88)) (a0_1 : Int) (A1_0 : Option Addr) (c1_0 : Nat) (l1_0 : List (S88)) (a1_1 : Int) (r : Bool) (w : World) (hr0_0 : Kd.C k88 w A0_0 l0_0.length l0_0) (hc0_0 : l0_0.length ≤ c0_0) (hr1_0 : Kd.C k88 w A1_0 l1_0.length l1_0) (hc1_0 : l1_0.length ≤ c1_0) (h : laws_eqTable.f k l0_0 a0_1 l1_0 a1_1 = some r) :
  Calls Try.prog 67 #[.agg #[.slice A0_0 l0_0.length c0_0, .int .i64 a0_1], .agg #[.slice A1_0 l1_0.length c1_0, .int .i64 a1_1]] w fun e w' => e = .returned (.bool r) ∧ Below w.heap.size w w' := by
 have hu25 := Try.underlying25
 have HR0_0 := Aside0.mk hr0_0
 have HC0_0 := Aside0.mk hc0_0
 clear hr0_0 hc0_0
 have HR1_0 := Aside0.mk hr1_0
 have HC1_0 := Aside0.mk hc1_0
 clear hr1_0 hc1_0
 have HB := Aside0.mk (Below.refl w.heap.size w)
 have H : ((laws_eqFieldS.f k l0_0 l1_0).bind fun t133 => (if t133 = true then (if a0_1 = a1_1 then (some true) else (some false)) else (some false))) = some r := h
 clear h
 obtain ⟨t133, A3, H⟩ := ob H
 (try dsimp only at H)
 have HC4 := Aside0.mk H
 clear H
 go_enter Try.func67, Try.ntmps67
 go_upto_if 10 with (first | ((with_reducible refine gd 2 rfl ?_); refine bx (N := 2) (cs := #[.slice A0_0 l0_0.length c0_0, .int .i64 a0_1]) (t := 25) ?_; intro gb131 hg w5 hbox hb; have BK131 := Aside0.mk (hbox); have GW131 := gw HB hg; have GE131 := GW131; replace HB := Aside0.mk (below_step (zb HB) hb); clear hb hbox hg) | ((with_reducible refine gd 3 rfl ?_); refine bx (N := 3) (cs := #[.slice A1_0 l1_0.length c1_0, .int .i64 a1_1]) (t := 25) ?_; intro gb132 hg w6 hbox hb; have BK132 := Aside0.mk (hbox); have GW132 := gw HB hg; have GE132 := GW132; replace HB := Aside0.mk (below_step (zb HB) hb); obtain ⟨NB131_132, NB132_131⟩ := nb BK131 hg; replace BK131 := kb BK131 hb; clear hb hbox hg; have hnb7 := NB131_132.out; have hnc7 := NB132_131.out; obtain ⟨hcz8_0, hcz8_1, hfz8_0, hfz8_1⟩ := c2 BK131; obtain ⟨hcz9_0, hcz9_1, hfz9_0, hfz9_1⟩ := c2 BK132) | ((with_reducible refine gq 123 rfl ?_); refine gl (some 9) Try.func123 #[.slice A0_0 l0_0.length c0_0, .slice A1_0 l1_0.length c1_0] ?_; (with_reducible refine (laws_eqFieldS.calls k _ _ l0_0 _ _ l1_0 t133 _ ?side1 ?side2 ?side3 ?side4 A3.out).mono ?_); (case side1 => exact zc (Kd.C_below HR0_0.out HB.out)); (case side2 => exact HC0_0.out); (case side3 => exact zc (Kd.C_below HR1_0.out HB.out)); (case side4 => exact HC1_0.out); rintro e w10 ⟨rfl, hb⟩; refine ⟨_, rfl, ?_⟩; replace BK131 := kb BK131 hb; replace BK132 := kb BK132 hb; replace HB := Aside0.mk (below_step (zb HB) hb); (try clear hb)))
 (try simp only [Act.put, s1, s2, s3])
 have H := HC4.out
 clear HC4
 by_cases c11 : t133 = true
 ·subst c11
  rw [if_pos rfl] at H
  replace H := sp H
  rcases H with ⟨c12, H⟩ | ⟨c12, H⟩
  ·skip
   have c12b0 : (a0_1 == a1_1) = true := beq_iff_eq.mpr c12
   have c12b1 : (a0_1 != a1_1) = false := bne_eq_false_iff_eq.mpr c12
   clear c12
   (first | rw [c12b0] | rw [c12b1] | rw [c12b2] | (simp only [i64_w, i32_w]; rw [c12b0]) | skip)
   obtain rfl := Option.some.inj H
   have hnb13 := NB131_132.out
   have hnc13 := NB132_131.out
   obtain ⟨hcz14_0, hcz14_1, hfz14_0, hfz14_1⟩ := c2 BK131
   obtain ⟨hcz15_0, hcz15_1, hfz15_0, hfz15_1⟩ := c2 BK132
   go_wp2
   go_ret
   exact ⟨ze, zb HB⟩
  ·skip
   have c12b0 : (a0_1 == a1_1) = false := beq_eq_false_iff_ne.mpr c12
   have c12b1 : (a0_1 != a1_1) = true := bne_iff_ne.mpr c12
   (first | rw [c12b0] | rw [c12b1] | rw [c12b2] | (simp only [i64_w, i32_w]; rw [c12b0]) | skip)
   obtain rfl := Option.some.inj H
   have hnb16 := NB131_132.out
   have hnc16 := NB132_131.out
   obtain ⟨hcz17_0, hcz17_1, hfz17_0, hfz17_1⟩ := c2 BK131
   obtain ⟨hcz18_0, hcz18_1, hfz18_0, hfz18_1⟩ := c2 BK132
   go_wp2
   go_ret
   exact ⟨ze, zb HB⟩
 ·replace c11 := Bool.eq_false_iff.mpr c11
  subst c11
  rw [if_neg (show ¬ (false = true) by decide)] at H
  obtain rfl := Option.some.inj H
  go_wp2
  go_ret
  exact ⟨ze, zb HB⟩

/-! ### laws_eqFlow: function 69 -/
-- thin
def laws_eqFlow.f (a0_0 : Int) (a0_1 : Int) (a1_0 : Int) (a1_1 : Int) : Option (Bool) := if a0_0 = a1_0 then (if a0_1 = a1_1 then (some true) else (some false)) else (some false)
set_option maxHeartbeats 8000000 in
set_option maxRecDepth 100000 in
theorem laws_eqFlow.calls (a0_0 : Int) (a0_1 : Int) (a1_0 : Int) (a1_1 : Int) (r : Bool) (w : World) (h : laws_eqFlow.f a0_0 a0_1 a1_0 a1_1 = some r) :
  Calls Try.prog 69 #[.agg #[.int .i64 a0_0, .int .i64 a0_1], .agg #[.int .i64 a1_0, .int .i64 a1_1]] w fun e w' => e = .returned (.bool r) ∧ Below w.heap.size w w' := by
 have hu39 := Try.underlying39
 have HB := Aside0.mk (Below.refl w.heap.size w)
 have H : (if a0_0 = a1_0 then (if a0_1 = a1_1 then (some true) else (some false)) else (some false)) = some r := h
 clear h
 have HC3 := Aside0.mk H
 clear H
 go_enter Try.func69, Try.ntmps69
 go_upto_if 9 with (first | ((with_reducible refine gd 2 rfl ?_); refine bx (N := 2) (cs := #[.int .i64 a0_0, .int .i64 a0_1]) (t := 39) ?_; intro gb134 hg w4 hbox hb; have BK134 := Aside0.mk (hbox); have GW134 := gw HB hg; have GE134 := GW134; replace HB := Aside0.mk (below_step (zb HB) hb); clear hb hbox hg) | ((with_reducible refine gd 3 rfl ?_); refine bx (N := 3) (cs := #[.int .i64 a1_0, .int .i64 a1_1]) (t := 39) ?_; intro gb135 hg w5 hbox hb; have BK135 := Aside0.mk (hbox); have GW135 := gw HB hg; have GE135 := GW135; replace HB := Aside0.mk (below_step (zb HB) hb); obtain ⟨NB134_135, NB135_134⟩ := nb BK134 hg; replace BK134 := kb BK134 hb; clear hb hbox hg; have hnb6 := NB134_135.out; have hnc6 := NB135_134.out; obtain ⟨hcz7_0, hcz7_1, hfz7_0, hfz7_1⟩ := c2 BK134; obtain ⟨hcz8_0, hcz8_1, hfz8_0, hfz8_1⟩ := c2 BK135))
 (try simp only [Act.put, s1, s2, s3])
 have H := HC3.out
 clear HC3
 replace H := sp H
 rcases H with ⟨c9, H⟩ | ⟨c9, H⟩
 ·skip
  have c9b0 : (a0_0 == a1_0) = true := beq_iff_eq.mpr c9
  have c9b1 : (a0_0 != a1_0) = false := bne_eq_false_iff_eq.mpr c9
  clear c9
  (first | rw [c9b0] | rw [c9b1] | rw [c9b2] | (simp only [i64_w, i32_w]; rw [c9b0]) | skip)
  by_cases c10 : a0_1 = a1_1
  ·rw [if_pos c10] at H
   have c10b0 : (a0_1 == a1_1) = true := beq_iff_eq.mpr c10
   have c10b1 : (a0_1 != a1_1) = false := bne_eq_false_iff_eq.mpr c10
   clear c10
   obtain rfl := Option.some.inj H
   have hnb11 := NB134_135.out
   have hnc11 := NB135_134.out
   obtain ⟨hcz12_0, hcz12_1, hfz12_0, hfz12_1⟩ := c2 BK134
   obtain ⟨hcz13_0, hcz13_1, hfz13_0, hfz13_1⟩ := c2 BK135
   go_wp2
   go_ret
   exact ⟨ze, zb HB⟩
  ·rw [if_neg c10] at H
   have c10b0 : (a0_1 == a1_1) = false := beq_eq_false_iff_ne.mpr c10
   have c10b1 : (a0_1 != a1_1) = true := bne_iff_ne.mpr c10
   obtain rfl := Option.some.inj H
   have hnb14 := NB134_135.out
   have hnc14 := NB135_134.out
   obtain ⟨hcz15_0, hcz15_1, hfz15_0, hfz15_1⟩ := c2 BK134
   obtain ⟨hcz16_0, hcz16_1, hfz16_0, hfz16_1⟩ := c2 BK135
   go_wp2
   go_ret
   exact ⟨ze, zb HB⟩
 ·skip
  have c9b0 : (a0_0 == a1_0) = false := beq_eq_false_iff_ne.mpr c9
  have c9b1 : (a0_0 != a1_0) = true := bne_iff_ne.mpr c9
  (first | rw [c9b0] | rw [c9b1] | rw [c9b2] | (simp only [i64_w, i32_w]; rw [c9b0]) | skip)
  obtain rfl := Option.some.inj H
  go_wp2
  go_ret
  exact ⟨ze, zb HB⟩

end Go.Proofs.Ytlpibelofcabhaa.PFnExactWorldNew
