-- WRITTEN BY a turned print (wip/tools of the prover's repo)
import Derived.Test.YtdhahifdcoinhaaPFnHeadCutx0
import Derived.Test.YtdhahifdcoinhaaPFnHeadCutx2
import Derived.Test.YtdhahifdcoinhaaPFnHeadCutx3
namespace Go.Proofs.Ytdhahifdcoinhaa.PFnHeadCut
open Go.RowKit Go.Proofs.YtdhahifdcoinhaaW.PrintWords Go.Proofs.YtdhahifdcoinhaaW.PrintLast Go.Proofs.YtdhahifdcoinhaaW.PrintMore Go.Proofs.Ytdhahifdcoinhaa.Lm
attribute [local go_sem] max2_int min2_int max_two min_two max_three min_three max_four min_four   -- for this text's walks alone
set_option linter.unusedVariables false
set_option linter.unusedSimpArgs false

/-! ### spec_l71Field: function 58 -/
-- thin
def spec_l71Field.f (k : Nat) (s0_0 : List Int) (s0_1 : Int) : Option (ByteArray × ByteArray × Bool × Int) := (spec_l6Rd_of.f k s0_0 s0_1 (([(⟨#[58, 112, 97, 116, 104]⟩ : ByteArray), (⟨#[58, 115, 116, 97, 116, 117, 115]⟩ : ByteArray), (⟨#[107, 105, 110, 100]⟩ : ByteArray), (⟨#[115, 105, 122, 101]⟩ : ByteArray), (⟨#[116, 101]⟩ : ByteArray), (⟨#[97]⟩ : ByteArray), (⟨#[98]⟩ : ByteArray), (⟨#[107, 101, 121]⟩ : ByteArray)] : List ByteArray))).bind fun bt152 => ((spec_l6Rd_of.f k s0_0 bt152.2 (([(⟨#[]⟩ : ByteArray), (⟨#[48]⟩ : ByteArray), (⟨#[49, 50]⟩ : ByteArray), (⟨#[116, 101, 120, 116]⟩ : ByteArray), (⟨#[116, 114, 97, 105, 108, 101, 114, 115]⟩ : ByteArray), (⟨#[47, 101, 99, 104, 111]⟩ : ByteArray), (⟨#[120]⟩ : ByteArray), (⟨#[121, 49]⟩ : ByteArray), (⟨#[97, 98, 99]⟩ : ByteArray)] : List ByteArray))).bind fun bt157 => ((spec_l6Rd_pick.f k s0_0 bt157.2 8).bind fun bt160 => ((spec_l6Rd_pick.f k s0_0 bt160.2 24).bind fun bt162 => (if bt162.1 = 0 then ((spec_l6Rd_of.f k s0_0 bt162.2 (([(⟨#[]⟩ : ByteArray), (⟨#[65]⟩ : ByteArray), (⟨#[97, 97, 97, 97, 97, 97, 97, 97, 97, 97, 97, 97, 97, 97, 97, 97, 97]⟩ : ByteArray)] : List ByteArray))).bind fun bt167 => (some (bt167.1, bt157.1, (bt160.1 == 0), bt167.2))) else (if bt162.1 = 1 then ((spec_l71Word.f k s0_0 bt162.2).bind fun bt169 => (some (bt152.1, bt169.1, (bt160.1 == 0), bt169.2))) else (some (bt152.1, bt157.1, (bt160.1 == 0), bt162.2)))))))
theorem spec_l71Field.mono : ∀ a0 a1 k, LeO (spec_l71Field.f k a0 a1) (spec_l71Field.f (k + 1) a0 a1) := by
 intro a0 a1 k
 unfold spec_l71Field.f
 repeat' first
   | (with_reducible exact spec_l6Rd_of.mono _ _ _ _)
   | (with_reducible exact spec_l6Rd_pick.mono _ _ _ _)
   | (with_reducible exact spec_l71Word.mono _ _ _)
   | (with_reducible exact LeO.refl _)
   | (with_reducible exact LeO.none _)
   | (with_reducible refine LeO.ite ?_ ?_)
   | (with_reducible refine LeO.bind ?_ (fun _ => ?_))
   | exact spec_l6Rd_of.mono _ _ _ _
   | exact spec_l6Rd_pick.mono _ _ _ _
   | exact spec_l71Word.mono _ _ _
   | exact LeO.none _
   | refine LeO.ite ?_ ?_
   | refine LeO.bind ?_ (fun _ => ?_)
set_option maxHeartbeats 8000000 in
set_option maxRecDepth 100000 in
theorem spec_l71Field.calls (k : Nat) (g : Nat) (s0_0 : List Int) (s0_1 : Int) (r1 : ByteArray) (r2 : ByteArray) (r3 : Bool) (r4 : Int) (w0 w : World) (hI : IsS85 w0 w g s0_0 s0_1) (hB : Below w0.heap.size w0 w) (h : spec_l71Field.f k s0_0 s0_1 = some (r1, r2, r3, r4)) :
  Calls Try.prog 58 #[.pointer (some ⟨g, 0, none⟩)] w fun e w' => e = .returned (.agg #[.string r1, .string r2, .bool r3]) ∧ IsS85 w0 w' g s0_0 r4 ∧ Below w0.heap.size w0 w' ∧ KeepBut w w' g none := by
 have hu36 := Try.underlying36
 have HI0 := Aside0.mk hI
 have HK := Aside0.mk (KeepBut.refl w g none)
 have HL := Aside0.mk hB.size
 clear hI
 have HW0 := Aside0.mk hB.size
 have HB := Aside0.mk hB
 clear hB
 have H : ((spec_l6Rd_of.f k s0_0 s0_1 (([(⟨#[58, 112, 97, 116, 104]⟩ : ByteArray), (⟨#[58, 115, 116, 97, 116, 117, 115]⟩ : ByteArray), (⟨#[107, 105, 110, 100]⟩ : ByteArray), (⟨#[115, 105, 122, 101]⟩ : ByteArray), (⟨#[116, 101]⟩ : ByteArray), (⟨#[97]⟩ : ByteArray), (⟨#[98]⟩ : ByteArray), (⟨#[107, 101, 121]⟩ : ByteArray)] : List ByteArray))).bind fun bt152 => ((spec_l6Rd_of.f k s0_0 bt152.2 (([(⟨#[]⟩ : ByteArray), (⟨#[48]⟩ : ByteArray), (⟨#[49, 50]⟩ : ByteArray), (⟨#[116, 101, 120, 116]⟩ : ByteArray), (⟨#[116, 114, 97, 105, 108, 101, 114, 115]⟩ : ByteArray), (⟨#[47, 101, 99, 104, 111]⟩ : ByteArray), (⟨#[120]⟩ : ByteArray), (⟨#[121, 49]⟩ : ByteArray), (⟨#[97, 98, 99]⟩ : ByteArray)] : List ByteArray))).bind fun bt157 => ((spec_l6Rd_pick.f k s0_0 bt157.2 8).bind fun bt160 => ((spec_l6Rd_pick.f k s0_0 bt160.2 24).bind fun bt162 => (if bt162.1 = 0 then ((spec_l6Rd_of.f k s0_0 bt162.2 (([(⟨#[]⟩ : ByteArray), (⟨#[65]⟩ : ByteArray), (⟨#[97, 97, 97, 97, 97, 97, 97, 97, 97, 97, 97, 97, 97, 97, 97, 97, 97]⟩ : ByteArray)] : List ByteArray))).bind fun bt167 => (some (bt167.1, bt157.1, (bt160.1 == 0), bt167.2))) else (if bt162.1 = 1 then ((spec_l71Word.f k s0_0 bt162.2).bind fun bt169 => (some (bt152.1, bt169.1, (bt160.1 == 0), bt169.2))) else (some (bt152.1, bt157.1, (bt160.1 == 0), bt162.2)))))))) = some (r1, r2, r3, r4) := h
 clear h
 obtain ⟨y149, hy149⟩ : ∃ y_ : List ByteArray, y_ = (([(⟨#[58, 112, 97, 116, 104]⟩ : ByteArray), (⟨#[58, 115, 116, 97, 116, 117, 115]⟩ : ByteArray), (⟨#[107, 105, 110, 100]⟩ : ByteArray), (⟨#[115, 105, 122, 101]⟩ : ByteArray), (⟨#[116, 101]⟩ : ByteArray), (⟨#[97]⟩ : ByteArray), (⟨#[98]⟩ : ByteArray), (⟨#[107, 101, 121]⟩ : ByteArray)] : List ByteArray)) := ⟨_, rfl⟩
 replace H : ((spec_l6Rd_of.f k s0_0 s0_1 y149).bind fun bt152 => ((spec_l6Rd_of.f k s0_0 bt152.2 (([(⟨#[]⟩ : ByteArray), (⟨#[48]⟩ : ByteArray), (⟨#[49, 50]⟩ : ByteArray), (⟨#[116, 101, 120, 116]⟩ : ByteArray), (⟨#[116, 114, 97, 105, 108, 101, 114, 115]⟩ : ByteArray), (⟨#[47, 101, 99, 104, 111]⟩ : ByteArray), (⟨#[120]⟩ : ByteArray), (⟨#[121, 49]⟩ : ByteArray), (⟨#[97, 98, 99]⟩ : ByteArray)] : List ByteArray))).bind fun bt157 => ((spec_l6Rd_pick.f k s0_0 bt157.2 8).bind fun bt160 => ((spec_l6Rd_pick.f k s0_0 bt160.2 24).bind fun bt162 => (if bt162.1 = 0 then ((spec_l6Rd_of.f k s0_0 bt162.2 (([(⟨#[]⟩ : ByteArray), (⟨#[65]⟩ : ByteArray), (⟨#[97, 97, 97, 97, 97, 97, 97, 97, 97, 97, 97, 97, 97, 97, 97, 97, 97]⟩ : ByteArray)] : List ByteArray))).bind fun bt167 => (some (bt167.1, bt157.1, (bt160.1 == 0), bt167.2))) else (if bt162.1 = 1 then ((spec_l71Word.f k s0_0 bt162.2).bind fun bt169 => (some (bt152.1, bt169.1, (bt160.1 == 0), bt169.2))) else (some (bt152.1, bt157.1, (bt160.1 == 0), bt162.2)))))))) = some (r1, r2, r3, r4) := by first | (rw [hy149]; with_reducible exact H) | (have H2_ := (Option.bind_some _ _).symm.trans H; rw [hy149]; with_reducible exact H2_) | (have H2_ := (Option.bind_some _ _).symm.trans H; with_reducible exact H2_) | with_reducible exact H | (rw [hy149]; exact H) | exact H
 have Ny149 := Aside0.mk hy149
 clear hy149
 replace H := Option.bind_eq_some_iff.mp H
 obtain ⟨⟨t152, t153⟩, A20, H⟩ := H
 replace H : ((spec_l6Rd_of.f k s0_0 t153 (([(⟨#[]⟩ : ByteArray), (⟨#[48]⟩ : ByteArray), (⟨#[49, 50]⟩ : ByteArray), (⟨#[116, 101, 120, 116]⟩ : ByteArray), (⟨#[116, 114, 97, 105, 108, 101, 114, 115]⟩ : ByteArray), (⟨#[47, 101, 99, 104, 111]⟩ : ByteArray), (⟨#[120]⟩ : ByteArray), (⟨#[121, 49]⟩ : ByteArray), (⟨#[97, 98, 99]⟩ : ByteArray)] : List ByteArray))).bind fun bt157 => ((spec_l6Rd_pick.f k s0_0 bt157.2 8).bind fun bt160 => ((spec_l6Rd_pick.f k s0_0 bt160.2 24).bind fun bt162 => (if bt162.1 = 0 then ((spec_l6Rd_of.f k s0_0 bt162.2 (([(⟨#[]⟩ : ByteArray), (⟨#[65]⟩ : ByteArray), (⟨#[97, 97, 97, 97, 97, 97, 97, 97, 97, 97, 97, 97, 97, 97, 97, 97, 97]⟩ : ByteArray)] : List ByteArray))).bind fun bt167 => (some (bt167.1, bt157.1, (bt160.1 == 0), bt167.2))) else (if bt162.1 = 1 then ((spec_l71Word.f k s0_0 bt162.2).bind fun bt169 => (some (t152, bt169.1, (bt160.1 == 0), bt169.2))) else (some (t152, bt157.1, (bt160.1 == 0), bt162.2))))))) = some (r1, r2, r3, r4) := H
 have A2 := Aside0.mk A20
 clear A20
 obtain ⟨y154, hy154⟩ : ∃ y_ : List ByteArray, y_ = (([(⟨#[]⟩ : ByteArray), (⟨#[48]⟩ : ByteArray), (⟨#[49, 50]⟩ : ByteArray), (⟨#[116, 101, 120, 116]⟩ : ByteArray), (⟨#[116, 114, 97, 105, 108, 101, 114, 115]⟩ : ByteArray), (⟨#[47, 101, 99, 104, 111]⟩ : ByteArray), (⟨#[120]⟩ : ByteArray), (⟨#[121, 49]⟩ : ByteArray), (⟨#[97, 98, 99]⟩ : ByteArray)] : List ByteArray)) := ⟨_, rfl⟩
 replace H : ((spec_l6Rd_of.f k s0_0 t153 y154).bind fun bt157 => ((spec_l6Rd_pick.f k s0_0 bt157.2 8).bind fun bt160 => ((spec_l6Rd_pick.f k s0_0 bt160.2 24).bind fun bt162 => (if bt162.1 = 0 then ((spec_l6Rd_of.f k s0_0 bt162.2 (([(⟨#[]⟩ : ByteArray), (⟨#[65]⟩ : ByteArray), (⟨#[97, 97, 97, 97, 97, 97, 97, 97, 97, 97, 97, 97, 97, 97, 97, 97, 97]⟩ : ByteArray)] : List ByteArray))).bind fun bt167 => (some (bt167.1, bt157.1, (bt160.1 == 0), bt167.2))) else (if bt162.1 = 1 then ((spec_l71Word.f k s0_0 bt162.2).bind fun bt169 => (some (t152, bt169.1, (bt160.1 == 0), bt169.2))) else (some (t152, bt157.1, (bt160.1 == 0), bt162.2))))))) = some (r1, r2, r3, r4) := by first | (rw [hy154]; with_reducible exact H) | (have H2_ := (Option.bind_some _ _).symm.trans H; rw [hy154]; with_reducible exact H2_) | (have H2_ := (Option.bind_some _ _).symm.trans H; with_reducible exact H2_) | with_reducible exact H | (rw [hy154]; exact H) | exact H
 have Ny154 := Aside0.mk hy154
 clear hy154
 replace H := Option.bind_eq_some_iff.mp H
 obtain ⟨⟨t157, t158⟩, A30, H⟩ := H
 replace H : ((spec_l6Rd_pick.f k s0_0 t158 8).bind fun bt160 => ((spec_l6Rd_pick.f k s0_0 bt160.2 24).bind fun bt162 => (if bt162.1 = 0 then ((spec_l6Rd_of.f k s0_0 bt162.2 (([(⟨#[]⟩ : ByteArray), (⟨#[65]⟩ : ByteArray), (⟨#[97, 97, 97, 97, 97, 97, 97, 97, 97, 97, 97, 97, 97, 97, 97, 97, 97]⟩ : ByteArray)] : List ByteArray))).bind fun bt167 => (some (bt167.1, t157, (bt160.1 == 0), bt167.2))) else (if bt162.1 = 1 then ((spec_l71Word.f k s0_0 bt162.2).bind fun bt169 => (some (t152, bt169.1, (bt160.1 == 0), bt169.2))) else (some (t152, t157, (bt160.1 == 0), bt162.2)))))) = some (r1, r2, r3, r4) := H
 have A3 := Aside0.mk A30
 clear A30
 replace H := Option.bind_eq_some_iff.mp H
 obtain ⟨⟨t160, t161⟩, A40, H⟩ := H
 replace H : ((spec_l6Rd_pick.f k s0_0 t161 24).bind fun bt162 => (if bt162.1 = 0 then ((spec_l6Rd_of.f k s0_0 bt162.2 (([(⟨#[]⟩ : ByteArray), (⟨#[65]⟩ : ByteArray), (⟨#[97, 97, 97, 97, 97, 97, 97, 97, 97, 97, 97, 97, 97, 97, 97, 97, 97]⟩ : ByteArray)] : List ByteArray))).bind fun bt167 => (some (bt167.1, t157, (t160 == 0), bt167.2))) else (if bt162.1 = 1 then ((spec_l71Word.f k s0_0 bt162.2).bind fun bt169 => (some (t152, bt169.1, (t160 == 0), bt169.2))) else (some (t152, t157, (t160 == 0), bt162.2))))) = some (r1, r2, r3, r4) := H
 have A4 := Aside0.mk A40
 clear A40
 replace H := Option.bind_eq_some_iff.mp H
 obtain ⟨⟨t162, t163⟩, A50, H⟩ := H
 replace H : (if t162 = 0 then ((spec_l6Rd_of.f k s0_0 t163 (([(⟨#[]⟩ : ByteArray), (⟨#[65]⟩ : ByteArray), (⟨#[97, 97, 97, 97, 97, 97, 97, 97, 97, 97, 97, 97, 97, 97, 97, 97, 97]⟩ : ByteArray)] : List ByteArray))).bind fun bt167 => (some (bt167.1, t157, (t160 == 0), bt167.2))) else (if t162 = 1 then ((spec_l71Word.f k s0_0 t163).bind fun bt169 => (some (t152, bt169.1, (t160 == 0), bt169.2))) else (some (t152, t157, (t160 == 0), t163)))) = some (r1, r2, r3, r4) := H
 have A5 := Aside0.mk A50
 clear A50
 have HC6 := Aside0.mk H
 clear H
 go_enter Try.func58, Try.ntmps58
 go_upto_if 17 with (first | ((with_reducible refine gd 2 rfl ?_); refine bx (N := 2) (cs := #[.string (⟨#[]⟩ : ByteArray), .string (⟨#[]⟩ : ByteArray), .bool false]) (t := 36) ?_; intro gb148 hg w7 hbox hb; replace HB := Aside0.mk (below_step (zg85 HB) hb); have BK148 := Aside0.mk (hbox); have GW148 := Aside0.mk ((by rw [hg]; exact (keep_size (w := w) (g := g) (row := none) (zh HK)) : w.heap.size ≤ gb148)); have GE148 := Aside0.mk ((Nat.le_trans HW0.out (by rw [hg]; exact (keep_size (w := w) (g := g) (row := none) (zh HK)) : w.heap.size ≤ gb148) : w0.heap.size ≤ gb148)); replace HK := Aside0.mk (KeepBut.trans (zh HK) (KeepBut.of_below hb g none) (.inl rfl)); have NB0_148 := Aside0.mk ((by rw [hg]; exact Nat.ne_of_lt (IsS85.lt (show IsS85 w0 _ g s0_0 s0_1 from zi85 HI0)) : g ≠ gb148)); have NB148_0 := Aside0.mk ((by rw [hg]; exact Nat.ne_of_gt (IsS85.lt (show IsS85 w0 _ g s0_0 s0_1 from zi85 HI0)) : gb148 ≠ g)); replace HI0 := Aside0.mk (IsS85.below (zi85 HI0) hb); clear hb hbox hg) | ((with_reducible refine gd 5 rfl ?_); refine Kd.R_lit Kd.string _ 9 ?hg (N := 5) ?hd (xs := ([(⟨#[58, 112, 97, 116, 104]⟩ : ByteArray), (⟨#[58, 115, 116, 97, 116, 117, 115]⟩ : ByteArray), (⟨#[107, 105, 110, 100]⟩ : ByteArray), (⟨#[115, 105, 122, 101]⟩ : ByteArray), (⟨#[116, 101]⟩ : ByteArray), (⟨#[97]⟩ : ByteArray), (⟨#[98]⟩ : ByteArray), (⟨#[107, 101, 121]⟩ : ByteArray)] : List ByteArray)) (inner := [.string (⟨#[58, 112, 97, 116, 104]⟩ : ByteArray), .string (⟨#[58, 115, 116, 97, 116, 117, 115]⟩ : ByteArray), .string (⟨#[107, 105, 110, 100]⟩ : ByteArray), .string (⟨#[115, 105, 122, 101]⟩ : ByteArray), .string (⟨#[116, 101]⟩ : ByteArray), .string (⟨#[97]⟩ : ByteArray), .string (⟨#[98]⟩ : ByteArray), .string (⟨#[107, 101, 121]⟩ : ByteArray)]) (ok := fun _ => True) (okp := fun _ => True) ?hr ?hp (fun _ hk => hk) trivial (Below.refl _ _) (Nat.le_refl _) (by simp) ?_; (case hd => rfl); (case hg => rfl); (case hr => first | (go_simp; done) | (go_simp; rfl)); (case hp => exact (Reps.one (show Kd.M Kd.string _ _ _ (⟨#[58, 112, 97, 116, 104]⟩ : ByteArray) [.string (⟨#[58, 112, 97, 116, 104]⟩ : ByteArray)] from rfl) (Reps.one (show Kd.M Kd.string _ _ _ (⟨#[58, 115, 116, 97, 116, 117, 115]⟩ : ByteArray) [.string (⟨#[58, 115, 116, 97, 116, 117, 115]⟩ : ByteArray)] from rfl) (Reps.one (show Kd.M Kd.string _ _ _ (⟨#[107, 105, 110, 100]⟩ : ByteArray) [.string (⟨#[107, 105, 110, 100]⟩ : ByteArray)] from rfl) (Reps.one (show Kd.M Kd.string _ _ _ (⟨#[115, 105, 122, 101]⟩ : ByteArray) [.string (⟨#[115, 105, 122, 101]⟩ : ByteArray)] from rfl) (Reps.one (show Kd.M Kd.string _ _ _ (⟨#[116, 101]⟩ : ByteArray) [.string (⟨#[116, 101]⟩ : ByteArray)] from rfl) (Reps.one (show Kd.M Kd.string _ _ _ (⟨#[97]⟩ : ByteArray) [.string (⟨#[97]⟩ : ByteArray)] from rfl) (Reps.one (show Kd.M Kd.string _ _ _ (⟨#[98]⟩ : ByteArray) [.string (⟨#[98]⟩ : ByteArray)] from rfl) (Reps.one (show Kd.M Kd.string _ _ _ (⟨#[107, 101, 121]⟩ : ByteArray) [.string (⟨#[107, 101, 121]⟩ : ByteArray)] from rfl) (Reps.none _ _)))))))))); intro v150 w8 ho9 hb hg_ hnew_; clear hg_ hnew_; (first | rw [← Ny149.out] at ho9 | (simp only [Int.reduceToNat] at ho9; rw [← Ny149.out] at ho9)); have HO151 := Aside0.mk (Kd.R_lower ho9 (keep_size (w := w) (g := g) (row := none) (zh HK))); replace HI0 := Aside0.mk (IsS85.below (zi85 HI0) hb); replace BK148 := Aside0.mk (blk_below (g := gb148) (o := .cells #[.string (⟨#[]⟩ : ByteArray), .string (⟨#[]⟩ : ByteArray), .bool false] 36 (0, 0)) (zk BK148) hb); replace HK := Aside0.mk (KeepBut.trans (zh HK) (KeepBut.of_below hb g none) (.inl rfl)); replace HB := Aside0.mk (below_step (zg85 HB) hb); clear hb ho9; obtain ⟨Ao10, co10, eo10⟩ := Kd.R_slice HO151.out; subst eo10) | ((with_reducible refine gq 73 rfl ?_); refine gl (some 6) Try.func73 #[.pointer (some ⟨g, 0, none⟩), .slice Ao10 y149.length co10] ?_; (with_reducible refine (spec_l6Rd_of.calls k g s0_0 s0_1 _ _ y149 t152 t153 w0 _ ?side1 ?side2 ?side3 ?side4 ?side5 A2.out).mono ?_); (case side1 => exact zi85 HI0); (case side2 => exact zg85 HB); (case side3 => exact zc (Kd.R_reads' HO151.out).2.2); (case side4 => exact (Kd.R_reads' HO151.out).2.1); (case side5 => exact far_slice (IsS85.own_ne HI0.out HO151.out (by decide))); rintro e w11 ⟨rfl, hi, hb, hk⟩; refine ⟨_, rfl, ?_⟩; replace BK148 := Aside0.mk (KeepBut.blk hk (g' := gb148) (o := .cells #[.string (⟨#[]⟩ : ByteArray), .string (⟨#[]⟩ : ByteArray), .bool false] 36 (0, 0)) (zk BK148) NB148_0.out (by simp)); replace HO151 := Aside0.mk (Kd.R_mono (Kd.R_keep (IsS85.apart (show IsS85 w0 _ g s0_0 s0_1 from zi85 HI0) (zr HO151) (by decide)) hk (fun _ h => h.2)) (fun _ h => h.1)); replace HK := Aside0.mk (KeepBut.trans (zh HK) hk (.inl rfl)); replace HB := Aside0.mk (hb); replace HI0 := Aside0.mk (hi); (try clear hb); (try clear hk); (try clear hi)) | ((with_reducible refine gd 8 rfl ?_); refine Kd.R_lit Kd.string _ 9 ?hg (N := 8) ?hd (xs := ([(⟨#[]⟩ : ByteArray), (⟨#[48]⟩ : ByteArray), (⟨#[49, 50]⟩ : ByteArray), (⟨#[116, 101, 120, 116]⟩ : ByteArray), (⟨#[116, 114, 97, 105, 108, 101, 114, 115]⟩ : ByteArray), (⟨#[47, 101, 99, 104, 111]⟩ : ByteArray), (⟨#[120]⟩ : ByteArray), (⟨#[121, 49]⟩ : ByteArray), (⟨#[97, 98, 99]⟩ : ByteArray)] : List ByteArray)) (inner := [.string (⟨#[]⟩ : ByteArray), .string (⟨#[48]⟩ : ByteArray), .string (⟨#[49, 50]⟩ : ByteArray), .string (⟨#[116, 101, 120, 116]⟩ : ByteArray), .string (⟨#[116, 114, 97, 105, 108, 101, 114, 115]⟩ : ByteArray), .string (⟨#[47, 101, 99, 104, 111]⟩ : ByteArray), .string (⟨#[120]⟩ : ByteArray), .string (⟨#[121, 49]⟩ : ByteArray), .string (⟨#[97, 98, 99]⟩ : ByteArray)]) (ok := fun _ => True) (okp := fun _ => True) ?hr ?hp (fun _ hk => hk) trivial (Below.refl _ _) (Nat.le_refl _) (by simp) ?_; (case hd => rfl); (case hg => rfl); (case hr => first | (go_simp; done) | (go_simp; rfl)); (case hp => exact (Reps.one (show Kd.M Kd.string _ _ _ (⟨#[]⟩ : ByteArray) [.string (⟨#[]⟩ : ByteArray)] from rfl) (Reps.one (show Kd.M Kd.string _ _ _ (⟨#[48]⟩ : ByteArray) [.string (⟨#[48]⟩ : ByteArray)] from rfl) (Reps.one (show Kd.M Kd.string _ _ _ (⟨#[49, 50]⟩ : ByteArray) [.string (⟨#[49, 50]⟩ : ByteArray)] from rfl) (Reps.one (show Kd.M Kd.string _ _ _ (⟨#[116, 101, 120, 116]⟩ : ByteArray) [.string (⟨#[116, 101, 120, 116]⟩ : ByteArray)] from rfl) (Reps.one (show Kd.M Kd.string _ _ _ (⟨#[116, 114, 97, 105, 108, 101, 114, 115]⟩ : ByteArray) [.string (⟨#[116, 114, 97, 105, 108, 101, 114, 115]⟩ : ByteArray)] from rfl) (Reps.one (show Kd.M Kd.string _ _ _ (⟨#[47, 101, 99, 104, 111]⟩ : ByteArray) [.string (⟨#[47, 101, 99, 104, 111]⟩ : ByteArray)] from rfl) (Reps.one (show Kd.M Kd.string _ _ _ (⟨#[120]⟩ : ByteArray) [.string (⟨#[120]⟩ : ByteArray)] from rfl) (Reps.one (show Kd.M Kd.string _ _ _ (⟨#[121, 49]⟩ : ByteArray) [.string (⟨#[121, 49]⟩ : ByteArray)] from rfl) (Reps.one (show Kd.M Kd.string _ _ _ (⟨#[97, 98, 99]⟩ : ByteArray) [.string (⟨#[97, 98, 99]⟩ : ByteArray)] from rfl) (Reps.none _ _))))))))))); intro v155 w12 ho13 hb hg_ hnew_; clear hg_ hnew_; (first | rw [← Ny154.out] at ho13 | (simp only [Int.reduceToNat] at ho13; rw [← Ny154.out] at ho13)); have HO156 := Aside0.mk (Kd.R_lower (Kd.R_new' ho13 (Kd.R_lt (zr HO151))) (keep_size (w := w) (g := g) (row := none) (zh HK))); replace HO151 := Aside0.mk (Kd.R_elder' (zr HO151) (Kd.R_base ho13) hb); replace HI0 := Aside0.mk (IsS85.below (zi85 HI0) hb); replace BK148 := Aside0.mk (blk_below (g := gb148) (o := .cells #[.string (⟨#[]⟩ : ByteArray), .string (⟨#[]⟩ : ByteArray), .bool false] 36 (0, 0)) (zk BK148) hb); replace HK := Aside0.mk (KeepBut.trans (zh HK) (KeepBut.of_below hb g none) (.inl rfl)); replace HB := Aside0.mk (below_step (zg85 HB) hb); clear hb ho13; obtain ⟨Ao14, co14, eo14⟩ := Kd.R_slice HO156.out; subst eo14) | ((with_reducible refine gq 73 rfl ?_); refine gl (some 9) Try.func73 #[.pointer (some ⟨g, 0, none⟩), .slice Ao14 y154.length co14] ?_; (with_reducible refine (spec_l6Rd_of.calls k g s0_0 t153 _ _ y154 t157 t158 w0 _ ?side1 ?side2 ?side3 ?side4 ?side5 A3.out).mono ?_); (case side1 => exact zi85 HI0); (case side2 => exact zg85 HB); (case side3 => exact zc (Kd.R_reads' HO156.out).2.2); (case side4 => exact (Kd.R_reads' HO156.out).2.1); (case side5 => exact far_slice (IsS85.own_ne HI0.out HO156.out (by decide))); rintro e w15 ⟨rfl, hi, hb, hk⟩; refine ⟨_, rfl, ?_⟩; replace BK148 := Aside0.mk (KeepBut.blk hk (g' := gb148) (o := .cells #[.string (⟨#[]⟩ : ByteArray), .string (⟨#[]⟩ : ByteArray), .bool false] 36 (0, 0)) (zk BK148) NB148_0.out (by simp)); replace HO151 := Aside0.mk (Kd.R_mono (Kd.R_keep (IsS85.apart (show IsS85 w0 _ g s0_0 t153 from zi85 HI0) (zr HO151) (by decide)) hk (fun _ h => h.2)) (fun _ h => h.1)); replace HO156 := Aside0.mk (Kd.R_mono (Kd.R_keep (IsS85.apart (show IsS85 w0 _ g s0_0 t153 from zi85 HI0) (zr HO156) (by decide)) hk (fun _ h => h.2)) (fun _ h => h.1)); replace HK := Aside0.mk (KeepBut.trans (zh HK) hk (.inl rfl)); replace HB := Aside0.mk (hb); replace HI0 := Aside0.mk (hi); (try clear hb); (try clear hk); (try clear hi)) | ((with_reducible refine gd 3 rfl ?_); refine bx (N := 3) (cs := #[.string (⟨#[]⟩ : ByteArray), .string (⟨#[]⟩ : ByteArray), .bool false]) (t := 36) ?_; intro gb159 hg w16 hbox hb; replace HO151 := Aside0.mk (Kd.R_below (zr HO151) hb); replace HO156 := Aside0.mk (Kd.R_below (zr HO156) hb); replace HB := Aside0.mk (below_step (zg85 HB) hb); have BK159 := Aside0.mk (hbox); have GW159 := Aside0.mk ((by rw [hg]; exact (keep_size (w := w) (g := g) (row := none) (zh HK)) : w.heap.size ≤ gb159)); have GE159 := Aside0.mk ((Nat.le_trans HW0.out (by rw [hg]; exact (keep_size (w := w) (g := g) (row := none) (zh HK)) : w.heap.size ≤ gb159) : w0.heap.size ≤ gb159)); replace HK := Aside0.mk (KeepBut.trans (zh HK) (KeepBut.of_below hb g none) (.inl rfl)); have NB148_159 := Aside0.mk ((by rw [hg]; exact Nat.ne_of_lt (blk_lt (g := gb148) (o := .cells #[.string (⟨#[]⟩ : ByteArray), .string (⟨#[]⟩ : ByteArray), .bool false] 36 (0, 0)) (zk BK148)) : gb148 ≠ gb159)); have NB159_148 := Aside0.mk ((by rw [hg]; exact Nat.ne_of_gt (blk_lt (g := gb148) (o := .cells #[.string (⟨#[]⟩ : ByteArray), .string (⟨#[]⟩ : ByteArray), .bool false] 36 (0, 0)) (zk BK148)) : gb159 ≠ gb148)); replace BK148 := Aside0.mk (blk_below (g := gb148) (o := .cells #[.string (⟨#[]⟩ : ByteArray), .string (⟨#[]⟩ : ByteArray), .bool false] 36 (0, 0)) (zk BK148) hb); have NB0_159 := Aside0.mk ((by rw [hg]; exact Nat.ne_of_lt (IsS85.lt (show IsS85 w0 _ g s0_0 t158 from zi85 HI0)) : g ≠ gb159)); have NB159_0 := Aside0.mk ((by rw [hg]; exact Nat.ne_of_gt (IsS85.lt (show IsS85 w0 _ g s0_0 t158 from zi85 HI0)) : gb159 ≠ g)); replace HI0 := Aside0.mk (IsS85.below (zi85 HI0) hb); clear hb hbox hg; have hnb17 := NB159_148.out; have hnc17 := NB148_159.out; have hnb18 := NB159_0.out; have hnc18 := NB0_159.out; have hcz19_0 : w16.cell? ⟨gb159, 0, none⟩ = some (.string (⟨#[]⟩ : ByteArray)) := (blk_cell BK159.out 0).trans rfl; have hcz19_1 : w16.cell? ⟨gb159, 1, none⟩ = some (.string (⟨#[]⟩ : ByteArray)) := (blk_cell BK159.out 1).trans rfl; have hcz19_2 : w16.cell? ⟨gb159, 2, none⟩ = some (.bool false) := (blk_cell BK159.out 2).trans rfl; have hfz19_0 := blk_frozen BK159.out 0; have hfz19_1 := blk_frozen BK159.out 1; have hfz19_2 := blk_frozen BK159.out 2) | ((with_reducible refine gq 47 rfl ?_); refine gl (some 12) Try.func47 #[.pointer (some ⟨g, 0, none⟩), .int .i64 8] ?_; (with_reducible refine (spec_l6Rd_pick.calls k g s0_0 t158 8 t160 t161 w0 _ ?side1 ?side2 A4.out).mono ?_); (case side1 => exact zi85 HI0); (case side2 => exact zg85 HB); rintro e w20 ⟨rfl, hi, hb, hk⟩; refine ⟨_, rfl, ?_⟩; replace BK148 := Aside0.mk (KeepBut.blk hk (g' := gb148) (o := .cells #[.string (⟨#[]⟩ : ByteArray), .string (⟨#[]⟩ : ByteArray), .bool false] 36 (0, 0)) (by (with_reducible repeat (first | refine blk_drewN ?_ _ | refine blk_drew ?_ | refine blk_alloc ?_ _)); refine blk_far ?_ NB148_159.out _; (with_reducible repeat (first | refine blk_drewN ?_ _ | refine blk_drew ?_ | refine blk_alloc ?_ _)); refine blk_far ?_ NB148_159.out _; (with_reducible repeat (first | refine blk_drewN ?_ _ | refine blk_drew ?_ | refine blk_alloc ?_ _)); refine blk_far ?_ NB148_159.out _; exact zk BK148) NB148_0.out (by simp)); replace HO151 := Aside0.mk (Kd.R_mono (Kd.R_keep (IsS85.apart (show IsS85 w0 _ g s0_0 t158 from zi85 HI0) (by (with_reducible repeat (first | apply Kd.R_alloc | apply Kd.R_drewN | apply Kd.R_drew)); exact (Kd.R_mono (Kd.R_far (p := ⟨gb159, 2, none⟩) (Kd.R_far (p := ⟨gb159, 1, none⟩) (Kd.R_far (p := ⟨gb159, 0, none⟩) (Kd.R_types HO151.out BK159.out (by decide)) (fun _ hk => hk.2) (.string t152)) (fun _ hk => hk.2) (.string t157)) (fun _ hk => hk.2) (.bool false)) (fun _ h_ => h_.1))) (by decide)) hk (fun _ h => h.2)) (fun _ h => h.1)); replace HO156 := Aside0.mk (Kd.R_mono (Kd.R_keep (IsS85.apart (show IsS85 w0 _ g s0_0 t158 from zi85 HI0) (by (with_reducible repeat (first | apply Kd.R_alloc | apply Kd.R_drewN | apply Kd.R_drew)); exact (Kd.R_mono (Kd.R_far (p := ⟨gb159, 2, none⟩) (Kd.R_far (p := ⟨gb159, 1, none⟩) (Kd.R_far (p := ⟨gb159, 0, none⟩) (Kd.R_types HO156.out BK159.out (by decide)) (fun _ hk => hk.2) (.string t152)) (fun _ hk => hk.2) (.string t157)) (fun _ hk => hk.2) (.bool false)) (fun _ h_ => h_.1))) (by decide)) hk (fun _ h => h.2)) (fun _ h => h.1)); replace BK159 := Aside0.mk (KeepBut.blk hk (g' := gb159) (o := .cells #[.string t152, .string t157, .bool false] 36 (0, 0)) (by (with_reducible repeat (first | refine blk_drewN ?_ _ | refine blk_drew ?_ | refine blk_alloc ?_ _)); refine blk_put (cs := #[.string t152, .string t157, .bool false]) ?_ 2 _ rfl; (with_reducible repeat (first | refine blk_drewN ?_ _ | refine blk_drew ?_ | refine blk_alloc ?_ _)); refine blk_put (cs := #[.string t152, .string (⟨#[]⟩ : ByteArray), .bool false]) ?_ 1 _ rfl; (with_reducible repeat (first | refine blk_drewN ?_ _ | refine blk_drew ?_ | refine blk_alloc ?_ _)); refine blk_put (cs := #[.string (⟨#[]⟩ : ByteArray), .string (⟨#[]⟩ : ByteArray), .bool false]) ?_ 0 _ rfl; exact zk BK159) NB159_0.out (by simp)); replace HK := Aside0.mk (KeepBut.trans (zh HK) hk (.inl rfl)); replace HB := Aside0.mk (hb); replace HI0 := Aside0.mk (hi); (try clear hb); (try clear hk); (try clear hi); have hcz21_0 : w20.cell? ⟨gb159, 0, none⟩ = some (.string t152) := (blk_cell BK159.out 0).trans rfl; have hcz21_1 : w20.cell? ⟨gb159, 1, none⟩ = some (.string t157) := (blk_cell BK159.out 1).trans rfl; have hcz21_2 : w20.cell? ⟨gb159, 2, none⟩ = some (.bool false) := (blk_cell BK159.out 2).trans rfl; have hfz21_0 := blk_frozen BK159.out 0; have hfz21_1 := blk_frozen BK159.out 1; have hfz21_2 := blk_frozen BK159.out 2) | ((with_reducible refine gq 47 rfl ?_); refine gl (some 16) Try.func47 #[.pointer (some ⟨g, 0, none⟩), .int .i64 24] ?_; (with_reducible refine (spec_l6Rd_pick.calls k g s0_0 t161 24 t162 t163 w0 _ ?side1 ?side2 A5.out).mono ?_); (case side1 => exact zi85 HI0); (case side2 => exact zg85 HB); rintro e w22 ⟨rfl, hi, hb, hk⟩; refine ⟨_, rfl, ?_⟩; replace BK148 := Aside0.mk (KeepBut.blk hk (g' := gb148) (o := .cells #[.string (⟨#[]⟩ : ByteArray), .string (⟨#[]⟩ : ByteArray), .bool false] 36 (0, 0)) (by (with_reducible repeat (first | refine blk_drewN ?_ _ | refine blk_drew ?_ | refine blk_alloc ?_ _)); refine blk_far ?_ NB148_159.out _; exact zk BK148) NB148_0.out (by simp)); replace HO151 := Aside0.mk (Kd.R_mono (Kd.R_keep (IsS85.apart (show IsS85 w0 _ g s0_0 t161 from zi85 HI0) (by (with_reducible repeat (first | apply Kd.R_alloc | apply Kd.R_drewN | apply Kd.R_drew)); exact (Kd.R_mono (Kd.R_far (p := ⟨gb159, 2, none⟩) (Kd.R_types HO151.out BK159.out (by decide)) (fun _ hk => hk.2) (.bool (t160 == 0))) (fun _ h_ => h_.1))) (by decide)) hk (fun _ h => h.2)) (fun _ h => h.1)); replace HO156 := Aside0.mk (Kd.R_mono (Kd.R_keep (IsS85.apart (show IsS85 w0 _ g s0_0 t161 from zi85 HI0) (by (with_reducible repeat (first | apply Kd.R_alloc | apply Kd.R_drewN | apply Kd.R_drew)); exact (Kd.R_mono (Kd.R_far (p := ⟨gb159, 2, none⟩) (Kd.R_types HO156.out BK159.out (by decide)) (fun _ hk => hk.2) (.bool (t160 == 0))) (fun _ h_ => h_.1))) (by decide)) hk (fun _ h => h.2)) (fun _ h => h.1)); replace BK159 := Aside0.mk (KeepBut.blk hk (g' := gb159) (o := .cells #[.string t152, .string t157, .bool (t160 == 0)] 36 (0, 0)) (by (with_reducible repeat (first | refine blk_drewN ?_ _ | refine blk_drew ?_ | refine blk_alloc ?_ _)); refine blk_put (cs := #[.string t152, .string t157, .bool false]) ?_ 2 _ rfl; exact zk BK159) NB159_0.out (by simp)); replace HK := Aside0.mk (KeepBut.trans (zh HK) hk (.inl rfl)); replace HB := Aside0.mk (hb); replace HI0 := Aside0.mk (hi); (try clear hb); (try clear hk); (try clear hi)))
 (try simp only [Act.put, s1, s2, s3])
 have H := HC6.out
 clear HC6
 by_cases c23 : t162 = 0
 ·rw [if_pos c23] at H
  have c23b0 : (t162 == 0) = true := beq_iff_eq.mpr c23
  have c23b1 : (t162 != 0) = false := bne_eq_false_iff_eq.mpr c23
  clear c23
  (first | rw [c23b0] | rw [c23b1] | (simp only [i64_w, i32_w]; rw [c23b0]) | skip)
  obtain ⟨y164, hy164⟩ : ∃ y_ : List ByteArray, y_ = (([(⟨#[]⟩ : ByteArray), (⟨#[65]⟩ : ByteArray), (⟨#[97, 97, 97, 97, 97, 97, 97, 97, 97, 97, 97, 97, 97, 97, 97, 97, 97]⟩ : ByteArray)] : List ByteArray)) := ⟨_, rfl⟩
  replace H : ((spec_l6Rd_of.f k s0_0 t163 y164).bind fun bt167 => (some (bt167.1, t157, (t160 == 0), bt167.2))) = some (r1, r2, r3, r4) := by first | (rw [hy164]; with_reducible exact H) | (have H2_ := (Option.bind_some _ _).symm.trans H; rw [hy164]; with_reducible exact H2_) | (have H2_ := (Option.bind_some _ _).symm.trans H; with_reducible exact H2_) | with_reducible exact H | (rw [hy164]; exact H) | exact H
  have Ny164 := Aside0.mk hy164
  clear hy164
  replace H := Option.bind_eq_some_iff.mp H
  obtain ⟨⟨t167, t168⟩, A240, H⟩ := H
  replace H : (some (t167, t157, (t160 == 0), t168)) = some (r1, r2, r3, r4) := H
  have A24 := Aside0.mk A240
  clear A240
  simp only [Option.some.injEq, Prod.mk.injEq] at H
  obtain ⟨rfl, rfl, rfl, rfl⟩ := H
  go_wp2_with (first | ((with_reducible refine gd 20 rfl ?_); refine Kd.R_lit Kd.string _ 9 ?hg (N := 20) ?hd (xs := ([(⟨#[]⟩ : ByteArray), (⟨#[65]⟩ : ByteArray), (⟨#[97, 97, 97, 97, 97, 97, 97, 97, 97, 97, 97, 97, 97, 97, 97, 97, 97]⟩ : ByteArray)] : List ByteArray)) (inner := [.string (⟨#[]⟩ : ByteArray), .string (⟨#[65]⟩ : ByteArray), .string (⟨#[97, 97, 97, 97, 97, 97, 97, 97, 97, 97, 97, 97, 97, 97, 97, 97, 97]⟩ : ByteArray)]) (ok := fun _ => True) (okp := fun _ => True) ?hr ?hp (fun _ hk => hk) trivial (Below.refl _ _) (Nat.le_refl _) (by simp) ?_; (case hd => rfl); (case hg => rfl); (case hr => first | (go_simp; done) | (go_simp; rfl)); (case hp => exact (Reps.one (show Kd.M Kd.string _ _ _ (⟨#[]⟩ : ByteArray) [.string (⟨#[]⟩ : ByteArray)] from rfl) (Reps.one (show Kd.M Kd.string _ _ _ (⟨#[65]⟩ : ByteArray) [.string (⟨#[65]⟩ : ByteArray)] from rfl) (Reps.one (show Kd.M Kd.string _ _ _ (⟨#[97, 97, 97, 97, 97, 97, 97, 97, 97, 97, 97, 97, 97, 97, 97, 97, 97]⟩ : ByteArray) [.string (⟨#[97, 97, 97, 97, 97, 97, 97, 97, 97, 97, 97, 97, 97, 97, 97, 97, 97]⟩ : ByteArray)] from rfl) (Reps.none _ _))))); intro v165 w25 ho26 hb hg_ hnew_; clear hg_ hnew_; (first | rw [← Ny164.out] at ho26 | (simp only [Int.reduceToNat] at ho26; rw [← Ny164.out] at ho26)); have HO166 := Aside0.mk (Kd.R_lower (Kd.R_new' (Kd.R_new' ho26 (Kd.R_lt (zr HO151))) (Kd.R_lt (zr HO156))) (keep_size (w := w) (g := g) (row := none) (zh HK))); replace HO151 := Aside0.mk (Kd.R_elder' (zr HO151) (Kd.R_base ho26) hb); replace HO156 := Aside0.mk (Kd.R_elder' (zr HO156) (Kd.R_base ho26) hb); replace HI0 := Aside0.mk (IsS85.below (zi85 HI0) hb); replace BK148 := Aside0.mk (blk_below (g := gb148) (o := .cells #[.string (⟨#[]⟩ : ByteArray), .string (⟨#[]⟩ : ByteArray), .bool false] 36 (0, 0)) (zk BK148) hb); replace BK159 := Aside0.mk (blk_below (g := gb159) (o := .cells #[.string t152, .string t157, .bool (t160 == 0)] 36 (0, 0)) (zk BK159) hb); replace HK := Aside0.mk (KeepBut.trans (zh HK) (KeepBut.of_below hb g none) (.inl rfl)); replace HB := Aside0.mk (below_step (zg85 HB) hb); clear hb ho26; obtain ⟨Ao27, co27, eo27⟩ := Kd.R_slice HO166.out; subst eo27) | ((with_reducible refine gq 73 rfl ?_); refine gl (some 21) Try.func73 #[.pointer (some ⟨g, 0, none⟩), .slice Ao27 y164.length co27] ?_; (with_reducible refine (spec_l6Rd_of.calls k g s0_0 t163 _ _ y164 t167 t168 w0 _ ?side1 ?side2 ?side3 ?side4 ?side5 A24.out).mono ?_); (case side1 => exact zi85 HI0); (case side2 => exact zg85 HB); (case side3 => exact zc (Kd.R_reads' HO166.out).2.2); (case side4 => exact (Kd.R_reads' HO166.out).2.1); (case side5 => exact far_slice (IsS85.own_ne HI0.out HO166.out (by decide))); rintro e w28 ⟨rfl, hi, hb, hk⟩; refine ⟨_, rfl, ?_⟩; replace BK148 := Aside0.mk (KeepBut.blk hk (g' := gb148) (o := .cells #[.string (⟨#[]⟩ : ByteArray), .string (⟨#[]⟩ : ByteArray), .bool false] 36 (0, 0)) (zk BK148) NB148_0.out (by simp)); replace HO151 := Aside0.mk (Kd.R_mono (Kd.R_keep (IsS85.apart (show IsS85 w0 _ g s0_0 t163 from zi85 HI0) (zr HO151) (by decide)) hk (fun _ h => h.2)) (fun _ h => h.1)); replace HO156 := Aside0.mk (Kd.R_mono (Kd.R_keep (IsS85.apart (show IsS85 w0 _ g s0_0 t163 from zi85 HI0) (zr HO156) (by decide)) hk (fun _ h => h.2)) (fun _ h => h.1)); replace BK159 := Aside0.mk (KeepBut.blk hk (g' := gb159) (o := .cells #[.string t152, .string t157, .bool (t160 == 0)] 36 (0, 0)) (zk BK159) NB159_0.out (by simp)); replace HO166 := Aside0.mk (Kd.R_mono (Kd.R_keep (IsS85.apart (show IsS85 w0 _ g s0_0 t163 from zi85 HI0) (zr HO166) (by decide)) hk (fun _ h => h.2)) (fun _ h => h.1)); replace HK := Aside0.mk (KeepBut.trans (zh HK) hk (.inl rfl)); replace HB := Aside0.mk (hb); replace HI0 := Aside0.mk (hi); (try clear hb); (try clear hk); (try clear hi); have hnb29 := NB159_148.out; have hnc29 := NB148_159.out; have hnb30 := NB159_0.out; have hnc30 := NB0_159.out; have hcz31_0 : w28.cell? ⟨gb159, 0, none⟩ = some (.string t152) := (blk_cell BK159.out 0).trans rfl; have hcz31_1 : w28.cell? ⟨gb159, 1, none⟩ = some (.string t157) := (blk_cell BK159.out 1).trans rfl; have hcz31_2 : w28.cell? ⟨gb159, 2, none⟩ = some (.bool (t160 == 0)) := (blk_cell BK159.out 2).trans rfl; have hfz31_0 := blk_frozen BK159.out 0; have hfz31_1 := blk_frozen BK159.out 1; have hfz31_2 := blk_frozen BK159.out 2; have hnb32 := NB148_0.out; have hnc32 := NB0_148.out; have hcz33_0 : w28.cell? ⟨gb148, 0, none⟩ = some (.string (⟨#[]⟩ : ByteArray)) := (blk_cell BK148.out 0).trans rfl; have hcz33_1 : w28.cell? ⟨gb148, 1, none⟩ = some (.string (⟨#[]⟩ : ByteArray)) := (blk_cell BK148.out 1).trans rfl; have hcz33_2 : w28.cell? ⟨gb148, 2, none⟩ = some (.bool false) := (blk_cell BK148.out 2).trans rfl; have hfz33_0 := blk_frozen BK148.out 0; have hfz33_1 := blk_frozen BK148.out 1; have hfz33_2 := blk_frozen BK148.out 2))
  refine bodyPost_ret (results_cell_row rfl _ _ gb148 36 #[.string t167, .string t157, .bool (t160 == 0)] (0, 0) _ rfl (by (with_reducible repeat (first | refine blk_drewN ?_ _ | refine blk_drew ?_ | refine blk_alloc ?_ _)); refine blk_put (cs := #[.string t167, .string t157, .bool false]) ?_ 2 _ rfl; (with_reducible repeat (first | refine blk_drewN ?_ _ | refine blk_drew ?_ | refine blk_alloc ?_ _)); refine blk_put (cs := #[.string t167, .string (⟨#[]⟩ : ByteArray), .bool false]) ?_ 1 _ rfl; (with_reducible repeat (first | refine blk_drewN ?_ _ | refine blk_drew ?_ | refine blk_alloc ?_ _)); refine blk_put (cs := #[.string (⟨#[]⟩ : ByteArray), .string (⟨#[]⟩ : ByteArray), .bool false]) ?_ 0 _ rfl; (with_reducible repeat (first | refine blk_drewN ?_ _ | refine blk_drew ?_ | refine blk_alloc ?_ _)); refine blk_far ?_ NB148_159.out _; exact zk BK148) Try.underlying36 rfl (by kernel_rfl)) rfl ?_
  exact ⟨ze, zi85 HI0, zg85 HB, zh HK⟩
 ·rw [if_neg c23] at H
  have c23b0 : (t162 == 0) = false := beq_eq_false_iff_ne.mpr c23
  have c23b1 : (t162 != 0) = true := bne_iff_ne.mpr c23
  (first | rw [c23b0] | rw [c23b1] | (simp only [i64_w, i32_w]; rw [c23b0]) | skip)
  by_cases c34 : t162 = 1
  ·rw [if_pos c34] at H
   have c34b0 : (t162 == 1) = true := beq_iff_eq.mpr c34
   have c34b1 : (t162 != 1) = false := bne_eq_false_iff_eq.mpr c34
   clear c34
   replace H := Option.bind_eq_some_iff.mp H
   obtain ⟨⟨t169, t170⟩, A350, H⟩ := H
   replace H : (some (t152, t169, (t160 == 0), t170)) = some (r1, r2, r3, r4) := H
   have A35 := Aside0.mk A350
   clear A350
   simp only [Option.some.injEq, Prod.mk.injEq] at H
   obtain ⟨rfl, rfl, rfl, rfl⟩ := H
   go_wp2_with (first | ((with_reducible refine gq 74 rfl ?_); refine gl (some 26) Try.func74 #[.pointer (some ⟨g, 0, none⟩)] ?_; (with_reducible refine (spec_l71Word.calls k g s0_0 t163 t169 t170 w0 _ ?side1 ?side2 A35.out).mono ?_); (case side1 => exact zi85 HI0); (case side2 => exact zg85 HB); rintro e w36 ⟨rfl, hi, hb, hk⟩; refine ⟨_, rfl, ?_⟩; replace BK148 := Aside0.mk (KeepBut.blk hk (g' := gb148) (o := .cells #[.string (⟨#[]⟩ : ByteArray), .string (⟨#[]⟩ : ByteArray), .bool false] 36 (0, 0)) (zk BK148) NB148_0.out (by simp)); replace HO151 := Aside0.mk (Kd.R_mono (Kd.R_keep (IsS85.apart (show IsS85 w0 _ g s0_0 t163 from zi85 HI0) (zr HO151) (by decide)) hk (fun _ h => h.2)) (fun _ h => h.1)); replace HO156 := Aside0.mk (Kd.R_mono (Kd.R_keep (IsS85.apart (show IsS85 w0 _ g s0_0 t163 from zi85 HI0) (zr HO156) (by decide)) hk (fun _ h => h.2)) (fun _ h => h.1)); replace BK159 := Aside0.mk (KeepBut.blk hk (g' := gb159) (o := .cells #[.string t152, .string t157, .bool (t160 == 0)] 36 (0, 0)) (zk BK159) NB159_0.out (by simp)); replace HK := Aside0.mk (KeepBut.trans (zh HK) hk (.inl rfl)); replace HB := Aside0.mk (hb); replace HI0 := Aside0.mk (hi); (try clear hb); (try clear hk); (try clear hi); have hnb37 := NB159_148.out; have hnc37 := NB148_159.out; have hnb38 := NB159_0.out; have hnc38 := NB0_159.out; have hcz39_0 : w36.cell? ⟨gb159, 0, none⟩ = some (.string t152) := (blk_cell BK159.out 0).trans rfl; have hcz39_1 : w36.cell? ⟨gb159, 1, none⟩ = some (.string t157) := (blk_cell BK159.out 1).trans rfl; have hcz39_2 : w36.cell? ⟨gb159, 2, none⟩ = some (.bool (t160 == 0)) := (blk_cell BK159.out 2).trans rfl; have hfz39_0 := blk_frozen BK159.out 0; have hfz39_1 := blk_frozen BK159.out 1; have hfz39_2 := blk_frozen BK159.out 2; have hnb40 := NB148_0.out; have hnc40 := NB0_148.out; have hcz41_0 : w36.cell? ⟨gb148, 0, none⟩ = some (.string (⟨#[]⟩ : ByteArray)) := (blk_cell BK148.out 0).trans rfl; have hcz41_1 : w36.cell? ⟨gb148, 1, none⟩ = some (.string (⟨#[]⟩ : ByteArray)) := (blk_cell BK148.out 1).trans rfl; have hcz41_2 : w36.cell? ⟨gb148, 2, none⟩ = some (.bool false) := (blk_cell BK148.out 2).trans rfl; have hfz41_0 := blk_frozen BK148.out 0; have hfz41_1 := blk_frozen BK148.out 1; have hfz41_2 := blk_frozen BK148.out 2))
   refine bodyPost_ret (results_cell_row rfl _ _ gb148 36 #[.string t152, .string t169, .bool (t160 == 0)] (0, 0) _ rfl (by (with_reducible repeat (first | refine blk_drewN ?_ _ | refine blk_drew ?_ | refine blk_alloc ?_ _)); refine blk_put (cs := #[.string t152, .string t169, .bool false]) ?_ 2 _ rfl; (with_reducible repeat (first | refine blk_drewN ?_ _ | refine blk_drew ?_ | refine blk_alloc ?_ _)); refine blk_put (cs := #[.string t152, .string (⟨#[]⟩ : ByteArray), .bool false]) ?_ 1 _ rfl; (with_reducible repeat (first | refine blk_drewN ?_ _ | refine blk_drew ?_ | refine blk_alloc ?_ _)); refine blk_put (cs := #[.string (⟨#[]⟩ : ByteArray), .string (⟨#[]⟩ : ByteArray), .bool false]) ?_ 0 _ rfl; (with_reducible repeat (first | refine blk_drewN ?_ _ | refine blk_drew ?_ | refine blk_alloc ?_ _)); refine blk_far ?_ NB148_159.out _; exact zk BK148) Try.underlying36 rfl (by kernel_rfl)) rfl ?_
   exact ⟨ze, zi85 HI0, zg85 HB, zh HK⟩
  ·rw [if_neg c34] at H
   have c34b0 : (t162 == 1) = false := beq_eq_false_iff_ne.mpr c34
   have c34b1 : (t162 != 1) = true := bne_iff_ne.mpr c34
   simp only [Option.some.injEq, Prod.mk.injEq] at H
   obtain ⟨rfl, rfl, rfl, rfl⟩ := H
   have hnb42 := NB159_148.out
   have hnc42 := NB148_159.out
   have hnb43 := NB159_0.out
   have hnc43 := NB0_159.out
   have hcz44_0 : w22.cell? ⟨gb159, 0, none⟩ = some (.string t152) := (blk_cell BK159.out 0).trans rfl
   have hcz44_1 : w22.cell? ⟨gb159, 1, none⟩ = some (.string t157) := (blk_cell BK159.out 1).trans rfl
   have hcz44_2 : w22.cell? ⟨gb159, 2, none⟩ = some (.bool (t160 == 0)) := (blk_cell BK159.out 2).trans rfl
   have hfz44_0 := blk_frozen BK159.out 0
   have hfz44_1 := blk_frozen BK159.out 1
   have hfz44_2 := blk_frozen BK159.out 2
   have hnb45 := NB148_0.out
   have hnc45 := NB0_148.out
   have hcz46_0 : w22.cell? ⟨gb148, 0, none⟩ = some (.string (⟨#[]⟩ : ByteArray)) := (blk_cell BK148.out 0).trans rfl
   have hcz46_1 : w22.cell? ⟨gb148, 1, none⟩ = some (.string (⟨#[]⟩ : ByteArray)) := (blk_cell BK148.out 1).trans rfl
   have hcz46_2 : w22.cell? ⟨gb148, 2, none⟩ = some (.bool false) := (blk_cell BK148.out 2).trans rfl
   have hfz46_0 := blk_frozen BK148.out 0
   have hfz46_1 := blk_frozen BK148.out 1
   have hfz46_2 := blk_frozen BK148.out 2
   go_wp2
   refine bodyPost_ret (results_cell_row rfl _ _ gb148 36 #[.string t152, .string t157, .bool (t160 == 0)] (0, 0) _ rfl (by (with_reducible repeat (first | refine blk_drewN ?_ _ | refine blk_drew ?_ | refine blk_alloc ?_ _)); refine blk_put (cs := #[.string t152, .string t157, .bool false]) ?_ 2 _ rfl; (with_reducible repeat (first | refine blk_drewN ?_ _ | refine blk_drew ?_ | refine blk_alloc ?_ _)); refine blk_put (cs := #[.string t152, .string (⟨#[]⟩ : ByteArray), .bool false]) ?_ 1 _ rfl; (with_reducible repeat (first | refine blk_drewN ?_ _ | refine blk_drew ?_ | refine blk_alloc ?_ _)); refine blk_put (cs := #[.string (⟨#[]⟩ : ByteArray), .string (⟨#[]⟩ : ByteArray), .bool false]) ?_ 0 _ rfl; exact zk BK148) Try.underlying36 rfl (by kernel_rfl)) rfl ?_
   exact ⟨ze, zi85 HI0, zg85 HB, zh HK⟩

/-! ### spec_l3Fit: function 51 -/
-- thin
def spec_l3Fit.l0 : Nat → List (S36) → List (S36) → Int → Option ((List (S36)) × Int)
 | 0, _, _, _ => none
 | k + 1, x3, x172000, x172001 => (spec_l3Size.f k x3).bind fun t179 => (if t179 > x172001 then (if 0 ≤ (wrap64 ((x3.length : Int) - 1)) then (if (wrap64 ((x3.length : Int) - 1)) ≤ (x3.length : Int) then (spec_l3Fit.l0 k (x3.take ((wrap64 ((x3.length : Int) - 1)) : Int).toNat) x172000 x172001) else (none)) else (none)) else (some (x3, x172001)))
def spec_l3Fit.f (k : Nat) (l0_0 : List (S36)) (a0_1 : Int) : Option ((List (S36)) × Int) := (some (([] : List (S36)) : List (S36))).bind fun y173 => (if y173.length + l0_0.length < 3518437208883 then (spec_l3Fit.l0 k (y173 ++ l0_0) l0_0 a0_1) else (none))
theorem spec_l3Fit.mono_l : ∀ k, (∀ y0 y1 y2, LeO (spec_l3Fit.l0 k y0 y1 y2) (spec_l3Fit.l0 (k + 1) y0 y1 y2))
 | 0 => fun _ _ _ r h => by simp [spec_l3Fit.l0] at h
 | k + 1 => by
  have ih0 := spec_l3Fit.mono_l k
  ·intro y0 y1 y2
   unfold spec_l3Fit.l0
   repeat' first
   | (with_reducible exact ih0 _ _ _)
   | (with_reducible exact spec_l3Size.mono _ _)
   | (with_reducible exact LeO.refl _)
   | (with_reducible exact LeO.none _)
   | (with_reducible refine LeO.ite ?_ ?_)
   | (with_reducible refine LeO.bind ?_ (fun _ => ?_))
   | exact ih0 _ _ _
   | exact spec_l3Size.mono _ _
   | exact LeO.none _
   | refine LeO.ite ?_ ?_
   | refine LeO.bind ?_ (fun _ => ?_)
theorem spec_l3Fit.mono : ∀ a0 a1 k, LeO (spec_l3Fit.f k a0 a1) (spec_l3Fit.f (k + 1) a0 a1) := by
 intro a0 a1 k
 have ih0 := spec_l3Fit.mono_l k
 unfold spec_l3Fit.f
 repeat' first
   | (with_reducible exact ih0 _ _ _)
   | (with_reducible exact spec_l3Size.mono _ _)
   | (with_reducible exact LeO.refl _)
   | (with_reducible exact LeO.none _)
   | (with_reducible refine LeO.ite ?_ ?_)
   | (with_reducible refine LeO.bind ?_ (fun _ => ?_))
   | exact ih0 _ _ _
   | exact spec_l3Size.mono _ _
   | exact LeO.none _
   | refine LeO.ite ?_ ?_
   | refine LeO.bind ?_ (fun _ => ?_)
set_option maxHeartbeats 8000000 in
set_option maxRecDepth 100000 in
theorem spec_l3Fit.calls (k : Nat) (A0_0 : Option Addr) (c0_0 : Nat) (l0_0 : List (S36)) (a0_1 : Int) (r1 : List (S36)) (r2 : Int) (w : World) (hr0_0 : Kd.C k36 w A0_0 l0_0.length l0_0) (hc0_0 : l0_0.length ≤ c0_0) (h : spec_l3Fit.f k l0_0 a0_1 = some (r1, r2)) :
  Calls Try.prog 51 #[.agg #[.slice A0_0 l0_0.length c0_0, .int .i64 a0_1]] w fun e w' => ∃ v0_ : Value, e = .returned (.agg #[v0_, .int .i64 r2]) ∧ Kd.R k36 36 w' w.heap.size (fun _ => True) v0_ r1 ∧ Below w.heap.size w w' := by
 have hu25 := Try.underlying25
 have HR0_0 := Aside0.mk hr0_0
 have HC0_0 := Aside0.mk hc0_0
 clear hr0_0 hc0_0
 have HB := Aside0.mk (Below.refl w.heap.size w)
 have H : ((some (([] : List (S36)) : List (S36))).bind fun y173 => (if y173.length + l0_0.length < 3518437208883 then (spec_l3Fit.l0 k (y173 ++ l0_0) l0_0 a0_1) else (none))) = some (r1, r2) := h
 clear h
 obtain ⟨y173, hy173⟩ : ∃ y_ : List (S36), y_ = (([] : List (S36))) := ⟨_, rfl⟩
 replace H : (if y173.length + l0_0.length < 3518437208883 then (spec_l3Fit.l0 k (y173 ++ l0_0) l0_0 a0_1) else (none)) = some (r1, r2) := by first | (rw [hy173]; with_reducible exact H) | (have H2_ := (Option.bind_some _ _).symm.trans H; rw [hy173]; with_reducible exact H2_) | (have H2_ := (Option.bind_some _ _).symm.trans H; with_reducible exact H2_) | with_reducible exact H | (rw [hy173]; exact H) | exact H
 have Ny173 := Aside0.mk hy173
 clear hy173
 by_cases c2 : y173.length + l0_0.length < 3518437208883
 ·rw [if_pos c2] at H
  have LMc2 := Aside0.mk c2
  clear c2
  obtain ⟨y176, hy176⟩ : ∃ y_ : List (S36), y_ = (y173 ++ l0_0) := ⟨_, rfl⟩
  replace H : (spec_l3Fit.l0 k y176 l0_0 a0_1) = some (r1, r2) := by first | (rw [hy176]; with_reducible exact H) | (have H2_ := (Option.bind_some _ _).symm.trans H; rw [hy176]; with_reducible exact H2_) | (have H2_ := (Option.bind_some _ _).symm.trans H; with_reducible exact H2_) | with_reducible exact H | (rw [hy176]; exact H) | exact H
  have Ny176 := Aside0.mk hy176
  clear hy176
  have H' := Aside0.mk H
  clear H
  go_enter Try.func51, Try.ntmps51
  go_wp2_with (first | ((with_reducible refine gd 1 rfl ?_); refine bx (N := 1) (cs := #[.slice A0_0 l0_0.length c0_0, .int .i64 a0_1]) (t := 25) ?_; intro gb171 hg w3 hbox hb; have BK171 := Aside0.mk (hbox); have GW171 := Aside0.mk ((by rw [hg]; exact (below_size (zb HB)) : w.heap.size ≤ gb171)); have GE171 := Aside0.mk ((by rw [hg]; exact (below_size (zb HB)) : w.heap.size ≤ gb171)); replace HB := Aside0.mk (below_step (zb HB) hb); clear hb hbox hg) | ((with_reducible refine gd 2 rfl ?_); refine bx (N := 2) (cs := #[.slice none 0 0, .int .i64 0]) (t := 25) ?_; intro gb172 hg w4 hbox hb; have BK172 := Aside0.mk (hbox); have GW172 := Aside0.mk ((by rw [hg]; exact (below_size (zb HB)) : w.heap.size ≤ gb172)); have GE172 := Aside0.mk ((by rw [hg]; exact (below_size (zb HB)) : w.heap.size ≤ gb172)); replace HB := Aside0.mk (below_step (zb HB) hb); have NB171_172 := Aside0.mk ((by rw [hg]; exact Nat.ne_of_lt (blk_lt (g := gb171) (o := .cells #[.slice A0_0 l0_0.length c0_0, .int .i64 a0_1] 25 (0, 0)) (zk BK171)) : gb171 ≠ gb172)); have NB172_171 := Aside0.mk ((by rw [hg]; exact Nat.ne_of_gt (blk_lt (g := gb171) (o := .cells #[.slice A0_0 l0_0.length c0_0, .int .i64 a0_1] 25 (0, 0)) (zk BK171)) : gb172 ≠ gb171)); replace BK171 := Aside0.mk (blk_below (g := gb171) (o := .cells #[.slice A0_0 l0_0.length c0_0, .int .i64 a0_1] 25 (0, 0)) (zk BK171) hb); clear hb hbox hg) | ((with_reducible refine gd 4 rfl ?_); refine Kd.R_lit k36 _ 36 ?hg (N := 4) ?hd (xs := ([] : List (S36))) (inner := []) (ok := fun _ => True) (okp := fun _ => True) ?hr ?hp (fun _ hk => hk) trivial (Below.refl _ _) (Nat.le_refl _) (by simp) ?_; (case hd => rfl); (case hg => rfl); (case hr => first | (go_simp; done) | (go_simp; rfl)); (case hp => exact (Reps.none _ _)); intro v174 w5 ho6 hb hg_ hnew_; clear hg_ hnew_; (first | rw [← Ny173.out] at ho6 | (simp only [Int.reduceToNat] at ho6; rw [← Ny173.out] at ho6)); have HO175 := Aside0.mk (Kd.R_lower ho6 (below_size (zb HB))); replace BK171 := Aside0.mk (blk_below (g := gb171) (o := .cells #[.slice A0_0 l0_0.length c0_0, .int .i64 a0_1] 25 (0, 0)) (zk BK171) hb); replace BK172 := Aside0.mk (blk_below (g := gb172) (o := .cells #[.slice none 0 0, .int .i64 0] 25 (0, 0)) (zk BK172) hb); replace HB := Aside0.mk (below_step (zb HB) hb); clear hb ho6; have hnb7 := NB171_172.out; have hnc7 := NB172_171.out; have hcz8_0 : w5.cell? ⟨gb171, 0, none⟩ = some (.slice A0_0 l0_0.length c0_0) := (blk_cell BK171.out 0).trans rfl; have hcz8_1 : w5.cell? ⟨gb171, 1, none⟩ = some (.int .i64 a0_1) := (blk_cell BK171.out 1).trans rfl; have hfz8_0 := blk_frozen BK171.out 0; have hfz8_1 := blk_frozen BK171.out 1) | ((with_reducible refine gate_builtin (b := .append) (xs := #[.tmp 4, .tmp 6]) rfl ?_); at_builtin; refine Kd.R_append_rows k36 (w0 := w) w.heap.size rfl (.tmp 4) (.tmp 6) 23 36 (.agg #[(.string ⟨#[]⟩), (.string ⟨#[]⟩), (.bool false)]) 40 rfl Try.underlying23 info36 rfl (by decide) (by omega) v174 y173 l0_0 _ _ _ (fun _ => True) (fun _ => False) rfl rfl ?aO ?aR (fun _ _ h => h) (fun _ h => h.elim) ?aF ?aB ?aS ?aL ?_; (case aR => exact zc (Kd.C_below HR0_0.out HB.out)); (case aB => exact (zb HB)); (case aF => exact (fun _ _ => trivial)); (case aO => exact (zr HO175)); (case aS => exact (below_size (zb HB))); (case aL => have := LMc2.out; omega); intro v177 w9 ho hb hg hat; rw [← Ny176.out] at ho; replace BK171 := Aside0.mk (blk_grown (g := gb171) (o := .cells #[.slice A0_0 l0_0.length c0_0, .int .i64 a0_1] 25 (0, 0)) (zk BK171) hg (Kd.R_ne HO175.out BK171.out (by decide))); replace BK172 := Aside0.mk (blk_grown (g := gb172) (o := .cells #[.slice none 0 0, .int .i64 0] 25 (0, 0)) (zk BK172) hg (Kd.R_ne HO175.out BK172.out (by decide))); replace HB := Aside0.mk (hb); have HO178 := Aside0.mk (ho); clear HO175; clear ho hb hg hat))
  go_loopg [3] k (fun kq v3 w' => ∃ (x3_1 : List (S36)), Aside0 (spec_l3Fit.l0 kq x3_1 l0_0 a0_1 = some (r1, r2)) ∧ Aside0 (kq ≤ k) ∧ Aside0 (Kd.R k36 36 w' w.heap.size (fun _ => True) v3 x3_1) ∧ Aside0 (w'.heap[gb171]? = some (.cells #[(.slice A0_0 l0_0.length c0_0), .int .i64 a0_1] 25 (0, 0))) ∧ Aside0 (w'.heap[gb172]? = some (.cells #[(.slice none 0 0), .int .i64 0] 25 (0, 0))) ∧ Aside0 (Below w.heap.size w w'))
  case atStart => exact ⟨(y176), H', ⟨Nat.le_refl _⟩, ⟨by exact zr HO178⟩, ⟨by exact zk BK171⟩, ⟨by exact zk BK172⟩, ⟨zb HB⟩⟩
  case round =>
   clear H'
   try clear c2
   try clear p2
   try clear c5
   try clear c7
   try clear hcz8_0
   try clear hcz8_1
   try clear hfz8_0
   try clear hfz8_1
   obtain ⟨x3_1, HA, HK1, HO_3, BK171, BK172, HB⟩ := hrel
   cases gk with
   | zero => exact absurd HA.out (by simp [spec_l3Fit.l0])
   | succ k1 =>
    have H := HA.out
    clear HA
    simp only [spec_l3Fit.l0] at H
    replace H := Option.bind_eq_some_iff.mp H
    obtain ⟨t179, A100, H⟩ := H
    replace H : (if t179 > a0_1 then (if 0 ≤ (wrap64 ((x3_1.length : Int) - 1)) then (if (wrap64 ((x3_1.length : Int) - 1)) ≤ (x3_1.length : Int) then (spec_l3Fit.l0 k1 (x3_1.take ((wrap64 ((x3_1.length : Int) - 1)) : Int).toNat) l0_0 a0_1) else (none)) else (none)) else (some (x3_1, a0_1))) = some (r1, r2) := H
    have A10 := Aside0.mk A100
    clear A100
    by_cases c11 : t179 > a0_1
    ·rw [if_pos c11] at H
     have c11b0 : decide (a0_1 < t179) = true := decide_eq_true c11
     clear c11
     obtain ⟨ji12, hji12⟩ : ∃ j_ : Int, (wrap64 ((x3_1.length : Int) - 1)) = j_ := ⟨_, rfl⟩
     replace H : (if 0 ≤ (ji12) then (if (ji12) ≤ (x3_1.length : Int) then (spec_l3Fit.l0 k1 (x3_1.take ((ji12) : Int).toNat) l0_0 a0_1) else (none)) else (none)) = some (r1, r2) := by first | (rw [hji12] at H; exact H) | (simp only [hji12] at H ⊢; exact H)
     (try rw [hji12] at A10)
     have hji12w : (IntKind.i64.wrap ((x3_1.length : Int) - 1)) = ji12 := (i64_w _).trans hji12
     by_cases c13 : 0 ≤ (ji12)
     ·rw [if_pos c13] at H
      have c13b0 := eq_true c13
      have c13b1 : decide (0 ≤ (ji12)) = true := decide_eq_true c13
      clear c13
      by_cases c14 : (ji12) ≤ (x3_1.length : Int)
      ·rw [if_pos c14] at H
       have c14b0 := eq_true c14
       have c14b1 : decide ((ji12) ≤ (x3_1.length : Int)) = true := decide_eq_true c14
       clear c14
       obtain ⟨y180, hy180⟩ : ∃ y_ : List (S36), y_ = (x3_1.take ((ji12) : Int).toNat) := ⟨_, rfl⟩
       replace H : (spec_l3Fit.l0 k1 y180 l0_0 a0_1) = some (r1, r2) := by first | (rw [hy180]; with_reducible exact H) | (have H2_ := (Option.bind_some _ _).symm.trans H; rw [hy180]; with_reducible exact H2_) | (have H2_ := (Option.bind_some _ _).symm.trans H; with_reducible exact H2_) | with_reducible exact H | (rw [hy180]; exact H) | exact H
       have Ny180 := Aside0.mk hy180
       clear hy180
       have H' := Aside0.mk H
       clear H
       try go_wp2
       replace HO_3 := Aside0.mk (Kd.R_drew HO_3.out)
       replace BK171 := Aside0.mk (blk_drew BK171.out)
       replace BK172 := Aside0.mk (blk_drew BK172.out)
       replace HB := Aside0.mk (below_drew1 HB.out)
       obtain ⟨Ao16, co16, eo16⟩ := Kd.R_slice HO_3.out
       (first | subst eo16 | (injection eo16 with f1_ f2_ f3_; have f4_ := f1_.symm; have f5_ := f3_.symm; clear f1_ f2_ f3_; subst f4_; subst f5_))
       refine start_ (n := 5) (S := fun w' => w'.cell? ⟨gb171, 0, none⟩ = some (.slice A0_0 l0_0.length c0_0) ∧ w'.cell? ⟨gb171, 1, none⟩ = some (.int .i64 a0_1)) (ds := []) #[false, false, false, false, false] (by kernel_rfl) rfl rfl ⟨(blk_cell BK171.out 0).trans rfl, (blk_cell BK171.out 1).trans rfl⟩ (fun hHeld => ?_)
       generalize wr.drew = w15 at HO_3 BK171 BK172 HB hHeld ⊢
       refine pu 0 (some 8) (bm 5 1) rfl rfl ?_
       refine pu 2 (some 10) (bm 5 5) rfl rfl ?_
       refine tk2 3 (some 11) (bm 5 13) rfl rfl hHeld ?_
       refine one_ (i := 1) (N := some 9) (bm 5 15) rfl rfl (by kernel_rfl) (by decide) (fun K hK => ?_)
       refine gs Try.func52 #[.slice Ao16 x3_1.length co16] ?_
       with_reducible refine (spec_l3Size.calls k1 _ _ x3_1 t179 _ ?side1 ?side2 A10.out).mono ?_
       (case side1 => exact zc (Kd.R_reads' HO_3.out).2.2)
       (case side2 => exact (Kd.R_reads' HO_3.out).2.1)
       rintro e w17 ⟨rfl, hb⟩
       refine ⟨_, rfl, ?_⟩
       replace HO_3 := Aside0.mk (Kd.R_below (zr HO_3) hb)
       replace BK171 := Aside0.mk (blk_below (g := gb171) (o := .cells #[.slice A0_0 l0_0.length c0_0, .int .i64 a0_1] 25 (0, 0)) (zk BK171) hb)
       replace BK172 := Aside0.mk (blk_below (g := gb172) (o := .cells #[.slice none 0 0, .int .i64 0] 25 (0, 0)) (zk BK172) hb)
       replace HB := Aside0.mk (below_step (zb HB) hb)
       (try clear hb)
       refine hK.out _ _ ⟨(blk_cell BK171.out 0).trans rfl, (blk_cell BK171.out 1).trans rfl⟩ (fun hHeld => ?_)
       clear hK K
       refine nm ?_
       refine pu 4 (some 12) (bm 5 31) rfl rfl ?_
       refine done_ (by kernel_rfl) ?_
       have q18 : ((ji12) : Int) ≤ ((x3_1.length : Int) : Int) := of_decide_eq_true za
       obtain ⟨i018, hi018, _, hsz18, _⟩ := info_parts info36
       have hcut18 := cut_to (P := Try.prog) 23 36 .i64 Try.underlying23 hi018 Ao16 x3_1.length co16 (ji12) (of_decide_eq_true za) q18 (Kd.R_reads' HO_3.out).2.1
       have hr18 := Kd.R_take (m := ((ji12) : Int).toNat) HO_3.out (by omega)
       have hy18 : y180.length = ((ji12) : Int).toNat := (by rw [Ny180.out, List.length_take]; omega)
       rw [← Ny180.out] at hr18
       rw [← hy18] at hr18 hcut18
       clear hy18 hi018 hsz18 HO_3
       have HO182 := Aside0.mk hr18
       clear hr18
       replace q18 := eq_true q18
       try go_wp2
       go_roundg k1
       case measure => have := HK1.out; omega
       case rel => exact ⟨(y180), H', ⟨by have := HK1.out; omega⟩, ⟨by exact zr HO182⟩, ⟨by exact zk BK171⟩, ⟨by exact zk BK172⟩, ⟨zb HB⟩⟩
      ·rw [if_neg c14] at H
       exact absurd H (by simp)
     ·rw [if_neg c13] at H
      exact absurd H (by simp)
    ·rw [if_neg c11] at H
     have c11b0 : decide (a0_1 < t179) = false := decide_eq_false c11
     clear c11
     simp only [Option.some.injEq, Prod.mk.injEq] at H
     obtain ⟨rfl, rfl⟩ := H
     try go_wp2
     replace HO_3 := Aside0.mk (Kd.R_drew HO_3.out)
     replace BK171 := Aside0.mk (blk_drew BK171.out)
     replace BK172 := Aside0.mk (blk_drew BK172.out)
     replace HB := Aside0.mk (below_drew1 HB.out)
     obtain ⟨Ao20, co20, eo20⟩ := Kd.R_slice HO_3.out
     (first | subst eo20 | (injection eo20 with f1_ f2_ f3_; have f4_ := f1_.symm; have f5_ := f3_.symm; clear f1_ f2_ f3_; subst f4_; subst f5_))
     refine start_ (n := 5) (S := fun w' => w'.cell? ⟨gb171, 0, none⟩ = some (.slice A0_0 l0_0.length c0_0) ∧ w'.cell? ⟨gb171, 1, none⟩ = some (.int .i64 a0_1)) (ds := []) #[false, false, false, false, false] (by kernel_rfl) rfl rfl ⟨(blk_cell BK171.out 0).trans rfl, (blk_cell BK171.out 1).trans rfl⟩ (fun hHeld => ?_)
     generalize wr.drew = w19 at HO_3 BK171 BK172 HB hHeld ⊢
     refine pu 0 (some 8) (bm 5 1) rfl rfl ?_
     refine pu 2 (some 10) (bm 5 5) rfl rfl ?_
     refine tk2 3 (some 11) (bm 5 13) rfl rfl hHeld ?_
     refine one_ (i := 1) (N := some 9) (bm 5 15) rfl rfl (by kernel_rfl) (by decide) (fun K hK => ?_)
     refine gs Try.func52 #[.slice Ao20 x3_1.length co20] ?_
     with_reducible refine (spec_l3Size.calls k1 _ _ x3_1 t179 _ ?side1 ?side2 A10.out).mono ?_
     (case side1 => exact zc (Kd.R_reads' HO_3.out).2.2)
     (case side2 => exact (Kd.R_reads' HO_3.out).2.1)
     rintro e w21 ⟨rfl, hb⟩
     refine ⟨_, rfl, ?_⟩
     replace HO_3 := Aside0.mk (Kd.R_below (zr HO_3) hb)
     replace BK171 := Aside0.mk (blk_below (g := gb171) (o := .cells #[.slice A0_0 l0_0.length c0_0, .int .i64 a0_1] 25 (0, 0)) (zk BK171) hb)
     replace BK172 := Aside0.mk (blk_below (g := gb172) (o := .cells #[.slice none 0 0, .int .i64 0] 25 (0, 0)) (zk BK172) hb)
     replace HB := Aside0.mk (below_step (zb HB) hb)
     (try clear hb)
     refine hK.out _ _ ⟨(blk_cell BK171.out 0).trans rfl, (blk_cell BK171.out 1).trans rfl⟩ (fun hHeld => ?_)
     clear hK K
     refine nm ?_
     refine pu 4 (some 12) (bm 5 31) rfl rfl ?_
     refine done_ (by kernel_rfl) ?_
     have hnb22 := NB171_172.out
     have hnc22 := NB172_171.out
     have hcz23_0 : w21.cell? ⟨gb171, 0, none⟩ = some (.slice A0_0 l0_0.length c0_0) := (blk_cell BK171.out 0).trans rfl
     have hcz23_1 : w21.cell? ⟨gb171, 1, none⟩ = some (.int .i64 a0_1) := (blk_cell BK171.out 1).trans rfl
     have hfz23_0 := blk_frozen BK171.out 0
     have hfz23_1 := blk_frozen BK171.out 1
     have hcz24_0 : w21.cell? ⟨gb172, 0, none⟩ = some (.slice none 0 0) := (blk_cell BK172.out 0).trans rfl
     have hcz24_1 : w21.cell? ⟨gb172, 1, none⟩ = some (.int .i64 0) := (blk_cell BK172.out 1).trans rfl
     have hfz24_0 := blk_frozen BK172.out 0
     have hfz24_1 := blk_frozen BK172.out 1
     try go_wp2
     refine bodyPost_ret (results_cell_row rfl _ _ gb172 25 #[.slice Ao20 x3_1.length co20, .int .i64 a0_1] (0, 0) _ rfl (by (with_reducible repeat (first | refine blk_drewN ?_ _ | refine blk_drew ?_ | refine blk_alloc ?_ _)); refine blk_put (cs := #[.slice Ao20 x3_1.length co20, .int .i64 0]) ?_ 1 _ rfl; (with_reducible repeat (first | refine blk_drewN ?_ _ | refine blk_drew ?_ | refine blk_alloc ?_ _)); refine blk_put (cs := #[.slice none 0 0, .int .i64 0]) ?_ 0 _ rfl; exact zk BK172) Try.underlying25 rfl (by kernel_rfl)) rfl ?_
     exact ⟨_, ze, by (with_reducible repeat (first | apply Kd.R_alloc | apply Kd.R_drewN | apply Kd.R_drew)); exact Kd.R_mono (Kd.R_far (p := ⟨gb172, 1, none⟩) (Kd.R_far (p := ⟨gb172, 0, none⟩) (Kd.R_types HO_3.out BK172.out (by decide)) (fun _ hk => hk.2) (.slice Ao20 x3_1.length co20)) (fun _ hk => hk.2) (.int .i64 a0_1)) (fun _ hk => trivial), zb HB⟩
 ·rw [if_neg c2] at H
  exact absurd H (by simp)

/-! ### spec_l3Add: function 60 -/
-- thin
def spec_l3Add.f (k : Nat) (l0_0 : List (S36)) (a0_1 : Int) (a1_0 : ByteArray) (a1_1 : ByteArray) (a1_2 : Bool) : Option ((List (S36)) × Int) := (some (([(⟨a1_0, a1_1, false⟩ : S36)] : List (S36)) : List (S36))).bind fun y186 => (if y186.length + l0_0.length < 3518437208883 then ((spec_l3Fit.f k (y186 ++ l0_0) a0_1).bind fun bt192 => (some (bt192.1, bt192.2))) else (none))
theorem spec_l3Add.mono : ∀ a0 a1 a2 a3 a4 k, LeO (spec_l3Add.f k a0 a1 a2 a3 a4) (spec_l3Add.f (k + 1) a0 a1 a2 a3 a4) := by
 intro a0 a1 a2 a3 a4 k
 unfold spec_l3Add.f
 repeat' first
   | (with_reducible exact spec_l3Fit.mono _ _ _)
   | (with_reducible exact LeO.refl _)
   | (with_reducible exact LeO.none _)
   | (with_reducible refine LeO.ite ?_ ?_)
   | (with_reducible refine LeO.bind ?_ (fun _ => ?_))
   | exact spec_l3Fit.mono _ _ _
   | exact LeO.none _
   | refine LeO.ite ?_ ?_
   | refine LeO.bind ?_ (fun _ => ?_)
def spec_l3Add.T2 : Bool × List (List Nat × List Nat) := (true, [([], []), ([0], [0]), ([], []), ([2], [2]), ([1, 3], [1, 3]), ([], []), ([5], [5]), ([4, 6], [4, 6]), ([7, 4], [7]), ([8, 8, 0, 1, 2, 3, 4, 5, 6, 7, 8], [8])])
def spec_l3Add.B2 : List Nat := [0, 1, 0, 4, 15, 0, 32, 127, 255, 511]
theorem spec_l3Add.tab2 : rtab .any (opsOf Try.f60 2) = spec_l3Add.T2 := by kernel_rfl
theorem spec_l3Add.bits2 : waitsOk spec_l3Add.T2.2 spec_l3Add.B2 = true := by kernel_rfl
set_option maxHeartbeats 8000000 in
set_option maxRecDepth 100000 in
theorem spec_l3Add.calls (k : Nat) (A0_0 : Option Addr) (c0_0 : Nat) (l0_0 : List (S36)) (a0_1 : Int) (a1_0 : ByteArray) (a1_1 : ByteArray) (a1_2 : Bool) (r1 : List (S36)) (r2 : Int) (w : World) (hr0_0 : Kd.C k36 w A0_0 l0_0.length l0_0) (hc0_0 : l0_0.length ≤ c0_0) (h : spec_l3Add.f k l0_0 a0_1 a1_0 a1_1 a1_2 = some (r1, r2)) :
  Calls Try.prog 60 #[.agg #[.slice A0_0 l0_0.length c0_0, .int .i64 a0_1], .agg #[.string a1_0, .string a1_1, .bool a1_2]] w fun e w' => ∃ v0_ : Value, e = .returned (.agg #[v0_, .int .i64 r2]) ∧ Kd.R k36 36 w' w.heap.size (fun _ => True) v0_ r1 ∧ Below w.heap.size w w' := by
 have hu25 := Try.underlying25
 have hu36 := Try.underlying36
 have HR0_0 := Aside0.mk hr0_0
 have HC0_0 := Aside0.mk hc0_0
 clear hr0_0 hc0_0
 have HB := Aside0.mk (Below.refl w.heap.size w)
 have H : ((some (([(⟨a1_0, a1_1, false⟩ : S36)] : List (S36)) : List (S36))).bind fun y186 => (if y186.length + l0_0.length < 3518437208883 then ((spec_l3Fit.f k (y186 ++ l0_0) a0_1).bind fun bt192 => (some (bt192.1, bt192.2))) else (none))) = some (r1, r2) := h
 clear h
 obtain ⟨y186, hy186⟩ : ∃ y_ : List (S36), y_ = (([(⟨a1_0, a1_1, false⟩ : S36)] : List (S36))) := ⟨_, rfl⟩
 replace H : (if y186.length + l0_0.length < 3518437208883 then ((spec_l3Fit.f k (y186 ++ l0_0) a0_1).bind fun bt192 => (some (bt192.1, bt192.2))) else (none)) = some (r1, r2) := by first | (rw [hy186]; with_reducible exact H) | (have H2_ := (Option.bind_some _ _).symm.trans H; rw [hy186]; with_reducible exact H2_) | (have H2_ := (Option.bind_some _ _).symm.trans H; with_reducible exact H2_) | with_reducible exact H | (rw [hy186]; exact H) | exact H
 have Ny186 := Aside0.mk hy186
 clear hy186
 by_cases c3 : y186.length + l0_0.length < 3518437208883
 ·rw [if_pos c3] at H
  have LMc3 := Aside0.mk c3
  clear c3
  obtain ⟨y189, hy189⟩ : ∃ y_ : List (S36), y_ = (y186 ++ l0_0) := ⟨_, rfl⟩
  replace H : ((spec_l3Fit.f k y189 a0_1).bind fun bt192 => (some (bt192.1, bt192.2))) = some (r1, r2) := by first | (rw [hy189]; with_reducible exact H) | (have H2_ := (Option.bind_some _ _).symm.trans H; rw [hy189]; with_reducible exact H2_) | (have H2_ := (Option.bind_some _ _).symm.trans H; with_reducible exact H2_) | with_reducible exact H | (rw [hy189]; exact H) | exact H
  have Ny189 := Aside0.mk hy189
  clear hy189
  replace H := Option.bind_eq_some_iff.mp H
  obtain ⟨⟨t192, t195⟩, A40, H⟩ := H
  replace H : (some (t192, t195)) = some (r1, r2) := H
  have A4 := Aside0.mk A40
  clear A40
  simp only [Option.some.injEq, Prod.mk.injEq] at H
  obtain ⟨rfl, rfl⟩ := H
  go_enter Try.func60, Try.ntmps60
  try go_wp2_with (first | ((with_reducible refine gd 2 rfl ?_); refine bx (N := 2) (cs := #[.slice A0_0 l0_0.length c0_0, .int .i64 a0_1]) (t := 25) ?_; intro gb183 hg w5 hbox hb; have BK183 := Aside0.mk (hbox); have GW183 := Aside0.mk ((by rw [hg]; exact (below_size (zb HB)) : w.heap.size ≤ gb183)); have GE183 := Aside0.mk ((by rw [hg]; exact (below_size (zb HB)) : w.heap.size ≤ gb183)); replace HB := Aside0.mk (below_step (zb HB) hb); clear hb hbox hg) | ((with_reducible refine gd 3 rfl ?_); refine bx (N := 3) (cs := #[.string a1_0, .string a1_1, .bool a1_2]) (t := 36) ?_; intro gb184 hg w6 hbox hb; have BK184 := Aside0.mk (hbox); have GW184 := Aside0.mk ((by rw [hg]; exact (below_size (zb HB)) : w.heap.size ≤ gb184)); have GE184 := Aside0.mk ((by rw [hg]; exact (below_size (zb HB)) : w.heap.size ≤ gb184)); replace HB := Aside0.mk (below_step (zb HB) hb); have NB183_184 := Aside0.mk ((by rw [hg]; exact Nat.ne_of_lt (blk_lt (g := gb183) (o := .cells #[.slice A0_0 l0_0.length c0_0, .int .i64 a0_1] 25 (0, 0)) (zk BK183)) : gb183 ≠ gb184)); have NB184_183 := Aside0.mk ((by rw [hg]; exact Nat.ne_of_gt (blk_lt (g := gb183) (o := .cells #[.slice A0_0 l0_0.length c0_0, .int .i64 a0_1] 25 (0, 0)) (zk BK183)) : gb184 ≠ gb183)); replace BK183 := Aside0.mk (blk_below (g := gb183) (o := .cells #[.slice A0_0 l0_0.length c0_0, .int .i64 a0_1] 25 (0, 0)) (zk BK183) hb); clear hb hbox hg) | ((with_reducible refine gd 4 rfl ?_); refine bx (N := 4) (cs := #[.slice none 0 0, .int .i64 0]) (t := 25) ?_; intro gb185 hg w7 hbox hb; have BK185 := Aside0.mk (hbox); have GW185 := Aside0.mk ((by rw [hg]; exact (below_size (zb HB)) : w.heap.size ≤ gb185)); have GE185 := Aside0.mk ((by rw [hg]; exact (below_size (zb HB)) : w.heap.size ≤ gb185)); replace HB := Aside0.mk (below_step (zb HB) hb); have NB183_185 := Aside0.mk ((by rw [hg]; exact Nat.ne_of_lt (blk_lt (g := gb183) (o := .cells #[.slice A0_0 l0_0.length c0_0, .int .i64 a0_1] 25 (0, 0)) (zk BK183)) : gb183 ≠ gb185)); have NB185_183 := Aside0.mk ((by rw [hg]; exact Nat.ne_of_gt (blk_lt (g := gb183) (o := .cells #[.slice A0_0 l0_0.length c0_0, .int .i64 a0_1] 25 (0, 0)) (zk BK183)) : gb185 ≠ gb183)); replace BK183 := Aside0.mk (blk_below (g := gb183) (o := .cells #[.slice A0_0 l0_0.length c0_0, .int .i64 a0_1] 25 (0, 0)) (zk BK183) hb); have NB184_185 := Aside0.mk ((by rw [hg]; exact Nat.ne_of_lt (blk_lt (g := gb184) (o := .cells #[.string a1_0, .string a1_1, .bool a1_2] 36 (0, 0)) (zk BK184)) : gb184 ≠ gb185)); have NB185_184 := Aside0.mk ((by rw [hg]; exact Nat.ne_of_gt (blk_lt (g := gb184) (o := .cells #[.string a1_0, .string a1_1, .bool a1_2] 36 (0, 0)) (zk BK184)) : gb185 ≠ gb184)); replace BK184 := Aside0.mk (blk_below (g := gb184) (o := .cells #[.string a1_0, .string a1_1, .bool a1_2] 36 (0, 0)) (zk BK184) hb); clear hb hbox hg; have hnb8 := NB184_183.out; have hnc8 := NB183_184.out; have hnb9 := NB184_185.out; have hnc9 := NB185_184.out; have hcz10_0 : w7.cell? ⟨gb184, 0, none⟩ = some (.string a1_0) := (blk_cell BK184.out 0).trans rfl; have hcz10_1 : w7.cell? ⟨gb184, 1, none⟩ = some (.string a1_1) := (blk_cell BK184.out 1).trans rfl; have hcz10_2 : w7.cell? ⟨gb184, 2, none⟩ = some (.bool a1_2) := (blk_cell BK184.out 2).trans rfl; have hfz10_0 := blk_frozen BK184.out 0; have hfz10_1 := blk_frozen BK184.out 1; have hfz10_2 := blk_frozen BK184.out 2))
  have n0_ : Aside0 ((w7.setCell ⟨gb184, 2, none⟩ (.bool false)).heap[gb183]? = some (.cells #[.slice A0_0 l0_0.length c0_0, .int .i64 a0_1] 25 (0, 0))) := ⟨by (with_reducible repeat (first | refine blk_drewN ?_ _ | refine blk_drew ?_ | refine blk_alloc ?_ _)); refine blk_far ?_ NB183_184.out _; exact zk BK183⟩
  have n1_ : Aside0 ((w7.setCell ⟨gb184, 2, none⟩ (.bool false)).heap[gb184]? = some (.cells #[.string a1_0, .string a1_1, .bool false] 36 (0, 0))) := ⟨by (with_reducible repeat (first | refine blk_drewN ?_ _ | refine blk_drew ?_ | refine blk_alloc ?_ _)); refine blk_put (cs := #[.string a1_0, .string a1_1, .bool a1_2]) ?_ 2 _ rfl; exact zk BK184⟩
  have n2_ : Aside0 ((w7.setCell ⟨gb184, 2, none⟩ (.bool false)).heap[gb185]? = some (.cells #[.slice none 0 0, .int .i64 0] 25 (0, 0))) := ⟨by (with_reducible repeat (first | refine blk_drewN ?_ _ | refine blk_drew ?_ | refine blk_alloc ?_ _)); refine blk_far ?_ NB185_184.out _; exact zk BK185⟩
  have n3_ : Aside0 (Below w.heap.size w (w7.setCell ⟨gb184, 2, none⟩ (.bool false))) := ⟨zb HB⟩
  (try clear BK183)
  (try clear BK184)
  (try clear BK185)
  (try clear HB)
  generalize (w7.setCell ⟨gb184, 2, none⟩ (.bool false)) = w11 at n0_ n1_ n2_ n3_ ⊢
  have BK183 := n0_
  have BK184 := n1_
  have BK185 := n2_
  have HB := n3_
  clear n0_ n1_ n2_ n3_
  replace BK183 := Aside0.mk (blk_drew BK183.out)
  replace BK184 := Aside0.mk (blk_drew BK184.out)
  replace BK185 := Aside0.mk (blk_drew BK185.out)
  replace HB := Aside0.mk (below_drew1 HB.out)
  refine start_ (n := 10) (S := fun w' => w'.cell? ⟨gb184, 0, none⟩ = some (.string a1_0) ∧ w'.cell? ⟨gb184, 1, none⟩ = some (.string a1_1) ∧ w'.cell? ⟨gb184, 2, none⟩ = some (.bool false) ∧ w'.cell? ⟨gb183, 0, none⟩ = some (.slice A0_0 l0_0.length c0_0) ∧ w'.cell? ⟨gb183, 1, none⟩ = some (.int .i64 a0_1)) (ds := []) #[false, false, false, false, false, false, false, false, false, false] (by kernel_rfl) rfl rfl ⟨(blk_cell BK184.out 0).trans rfl, (blk_cell BK184.out 1).trans rfl, (blk_cell BK184.out 2).trans rfl, (blk_cell BK183.out 0).trans rfl, (blk_cell BK183.out 1).trans rfl⟩ (fun hHeld => ?_); refine with_tabW spec_l3Add.tab2 spec_l3Add.bits2 (fun HT_ HW_ => ?_)
  generalize w11.drew = w12 at BK183 BK184 BK185 HB hHeld ⊢
  refine pu 2 (some 8) (bm 10 4) rfl rfl ?_
  refine pu 5 (some 11) (bm 10 36) rfl rfl ?_
  refine tk5 0 (some 6) (bm 10 37) rfl rfl hHeld ?_
  refine tk5 3 (some 9) (bm 10 45) rfl rfl hHeld ?_
  refine tk5 6 (some 12) (bm 10 109) rfl rfl hHeld ?_
  refine one_ (i := 1) (N := some 7) (bm 10 111) rfl rfl (one_of HT_.out (by kernel_rfl)) (by decide) (fun K hK => ?_)
  refine Kd.R_lit_step k36 _ 36 ?hg (N := 7) ?hd (xs := ([(⟨a1_0, a1_1, false⟩ : S36)] : List (S36))) (inner := [.string a1_0, .string a1_1, .bool false]) (ok := fun _ => True) (okp := fun _ => True) ?hr ?hp (fun _ hk => hk) trivial (Below.refl _ _) (Nat.le_refl _) (by simp) ?_; (case hd => rfl); (case hg => rfl); (case hr => first | (go_simp; done) | (go_simp; rfl)); (case hp => exact (Reps.c3 (show Kd.M k36 _ _ _ (⟨a1_0, a1_1, false⟩ : S36) [.string a1_0, .string a1_1, .bool false] from (k36_mkM _ _ _ (⟨a1_0, a1_1, false⟩ : S36) )) (Reps.none _ _)))
  intro v187 w13 ho14 hb hg_ hnew_
  clear hg_ hnew_
  (first | rw [← Ny186.out] at ho14 | (simp only [Int.reduceToNat] at ho14; rw [← Ny186.out] at ho14))
  have HO188 := Aside0.mk (Kd.R_lower (Kd.R_newB ho14 (g := gb184) (o := .cells #[.string a1_0, .string a1_1, .bool false] 36 (0, 0)) (zk BK184)) (below_size (zb HB)))
  replace BK183 := Aside0.mk (blk_below (g := gb183) (o := .cells #[.slice A0_0 l0_0.length c0_0, .int .i64 a0_1] 25 (0, 0)) (zk BK183) hb)
  replace BK184 := Aside0.mk (blk_below (g := gb184) (o := .cells #[.string a1_0, .string a1_1, .bool false] 36 (0, 0)) (zk BK184) hb)
  replace BK185 := Aside0.mk (blk_below (g := gb185) (o := .cells #[.slice none 0 0, .int .i64 0] 25 (0, 0)) (zk BK185) hb)
  replace HB := Aside0.mk (below_step (zb HB) hb)
  clear hb ho14
  refine hK.out _ _ ⟨(blk_cell BK184.out 0).trans rfl, (blk_cell BK184.out 1).trans rfl, (blk_cell BK184.out 2).trans rfl, (blk_cell BK183.out 0).trans rfl, (blk_cell BK183.out 1).trans rfl⟩ (fun hHeld => ?_)
  clear hK K
  refine nm ?_
  refine one_ (i := 4) (N := some 10) (bm 10 127) rfl rfl (one_of HT_.out (by kernel_rfl)) (by decide) (fun K hK => ?_)
  refine Kd.R_append_rows_step k36 (w0 := w) w.heap.size (by rfl) (.tmp 7) (.tmp 9) 23 36 (.agg #[(.string ⟨#[]⟩), (.string ⟨#[]⟩), (.bool false)]) 40 rfl Try.underlying23 info36 rfl (by decide) (by omega) v187 y186 l0_0 _ _ _ (fun k_ => k_ ≠ gb184) (fun _ => False) rfl rfl ?aO ?aR (fun _ _ h => h) (fun _ h => h.elim) ?aF ?aB ?aS ?aL ?_
  (case aR => exact zc (Kd.C_below HR0_0.out HB.out))
  (case aB => exact (zb HB))
  (case aF => exact (fun k_ hk => Kd.freshB (g := gb184) (o := .cells #[.string a1_0, .string a1_1, .bool false] 36 (0, 0)) (zk BK184) k_ hk))
  (case aO => exact (by (with_reducible repeat (first | apply Kd.R_alloc | apply Kd.R_drewN | apply Kd.R_drew)); exact Kd.R_mono HO188.out (fun _ hk => hk.2)))
  (case aS => exact (below_size (zb HB)))
  (case aL => have := LMc3.out; omega)
  intro v190 w15 ho hb hg hat
  rw [← Ny189.out] at ho
  replace BK183 := Aside0.mk (blk_grown (g := gb183) (o := .cells #[.slice A0_0 l0_0.length c0_0, .int .i64 a0_1] 25 (0, 0)) (zk BK183) hg (Kd.R_ne HO188.out BK183.out (by decide)))
  replace BK184 := Aside0.mk (blk_grown (g := gb184) (o := .cells #[.string a1_0, .string a1_1, .bool false] 36 (0, 0)) (zk BK184) hg (Kd.R_away HO188.out (fun _ hk => hk.2)))
  replace BK185 := Aside0.mk (blk_grown (g := gb185) (o := .cells #[.slice none 0 0, .int .i64 0] 25 (0, 0)) (zk BK185) hg (Kd.R_ne HO188.out BK185.out (by decide)))
  replace HB := Aside0.mk (hb)
  have HO191 := Aside0.mk (ho)
  clear HO188
  clear ho hb hg hat
  obtain ⟨Ao16, co16, eo16⟩ := Kd.R_slice HO191.out
  (first | subst eo16 | (injection eo16 with f1_ f2_ f3_; have f4_ := f1_.symm; have f5_ := f3_.symm; clear f1_ f2_ f3_; subst f4_; subst f5_))
  refine hK.out _ _ ⟨(blk_cell BK184.out 0).trans rfl, (blk_cell BK184.out 1).trans rfl, (blk_cell BK184.out 2).trans rfl, (blk_cell BK183.out 0).trans rfl, (blk_cell BK183.out 1).trans rfl⟩ (fun hHeld => ?_)
  clear hK K
  refine nm ?_
  refine pu 7 (some 13) (bm 10 255) rfl rfl ?_
  refine one_ (i := 8) (N := some 14) (bm 10 511) rfl rfl (one_of HT_.out (by kernel_rfl)) (by decide) (fun K hK => ?_)
  refine gs Try.func51 #[.agg #[.slice Ao16 y189.length co16, .int .i64 a0_1]] ?_
  with_reducible refine (spec_l3Fit.calls k _ _ y189 a0_1 t192 t195 _ ?side1 ?side2 A4.out).mono ?_
  (case side1 => exact zc (Kd.R_reads' HO191.out).2.2)
  (case side2 => exact (Kd.R_reads' HO191.out).2.1)
  rintro e w17 ⟨v193, rfl, ho0, hb⟩
  refine ⟨_, rfl, ?_⟩
  have HO194 := Aside0.mk (Kd.R_lower (Kd.R_newB (Kd.R_new' ho0 (Kd.R_lt (zr HO191))) (g := gb184) (o := .cells #[.string a1_0, .string a1_1, .bool false] 36 (0, 0)) (zk BK184)) (below_size (zb HB)))
  replace HO191 := Aside0.mk (Kd.R_elder' (zr HO191) (Kd.R_base ho0) hb)
  replace BK183 := Aside0.mk (blk_below (g := gb183) (o := .cells #[.slice A0_0 l0_0.length c0_0, .int .i64 a0_1] 25 (0, 0)) (zk BK183) hb)
  replace BK184 := Aside0.mk (blk_below (g := gb184) (o := .cells #[.string a1_0, .string a1_1, .bool false] 36 (0, 0)) (zk BK184) hb)
  replace BK185 := Aside0.mk (blk_below (g := gb185) (o := .cells #[.slice none 0 0, .int .i64 0] 25 (0, 0)) (zk BK185) hb)
  replace HB := Aside0.mk (below_step (zb HB) hb)
  (try clear hb)
  (try clear ho0)
  obtain ⟨Ao18, co18, eo18⟩ := Kd.R_slice HO194.out
  (first | subst eo18 | (injection eo18 with f1_ f2_ f3_; have f4_ := f1_.symm; have f5_ := f3_.symm; clear f1_ f2_ f3_; subst f4_; subst f5_))
  refine hK.out _ _ ⟨(blk_cell BK184.out 0).trans rfl, (blk_cell BK184.out 1).trans rfl, (blk_cell BK184.out 2).trans rfl, (blk_cell BK183.out 0).trans rfl, (blk_cell BK183.out 1).trans rfl⟩ (fun hHeld => ?_)
  clear hK K
  refine nm ?_
  refine one_ (i := 9) (N := none) (bm 10 1023) rfl rfl (one_of HT_.out (by kernel_rfl)) (by decide) (fun K hK => ?_)
  have hs19 : w17.cell? ⟨gb185, 0, none⟩ = some (.slice none 0 0) := (blk_cell BK185.out 0).trans rfl
  have hfs19 := blk_frozen BK185.out 0
  have hns19_0 := NB183_185.out
  have hns19_1 := NB184_185.out
  have hms19_0 := NB185_183.out
  have hms19_1 := NB185_184.out
  have hs20 : w17.cell? ⟨gb185, 1, none⟩ = some (.int .i64 0) := (blk_cell BK185.out 1).trans rfl
  have hfs20 := blk_frozen BK185.out 1
  have hns20_0 := NB183_185.out
  have hns20_1 := NB184_185.out
  have hms20_0 := NB185_183.out
  have hms20_1 := NB185_184.out
  refine skip_ (w1 := ?_) (by rfl) rfl ?_ ?_
  rotate_left
  ·go_simp
   rfl
  refine hK.out _ _ ⟨((cell_far (p := ⟨gb185, _, none⟩) NB184_185.out _).trans (((cell_far (p := ⟨gb185, _, none⟩) NB184_185.out _).trans (hHeld.1)))), ((cell_far (p := ⟨gb185, _, none⟩) NB184_185.out _).trans (((cell_far (p := ⟨gb185, _, none⟩) NB184_185.out _).trans (hHeld.2.1)))), ((cell_far (p := ⟨gb185, _, none⟩) NB184_185.out _).trans (((cell_far (p := ⟨gb185, _, none⟩) NB184_185.out _).trans (hHeld.2.2.1)))), ((cell_far (p := ⟨gb185, _, none⟩) NB183_185.out _).trans (((cell_far (p := ⟨gb185, _, none⟩) NB183_185.out _).trans (hHeld.2.2.2.1)))), ((cell_far (p := ⟨gb185, _, none⟩) NB183_185.out _).trans (((cell_far (p := ⟨gb185, _, none⟩) NB183_185.out _).trans (hHeld.2.2.2.2))))⟩ (fun hHeld => ?_)
  clear hK K
  refine done_ (done_of HT_.out (by kernel_rfl)) ?_
  try go_wp2
  refine bodyPost_ret (results_cell_row rfl _ _ gb185 25 #[.slice Ao18 t192.length co18, .int .i64 t195] (0, 0) _ rfl (by (with_reducible repeat (first | refine blk_drewN ?_ _ | refine blk_drew ?_ | refine blk_alloc ?_ _)); refine blk_put (cs := #[.slice Ao18 t192.length co18, .int .i64 0]) ?_ 1 _ rfl; (with_reducible repeat (first | refine blk_drewN ?_ _ | refine blk_drew ?_ | refine blk_alloc ?_ _)); refine blk_put (cs := #[.slice none 0 0, .int .i64 0]) ?_ 0 _ rfl; exact zk BK185) Try.underlying25 rfl (by kernel_rfl)) rfl ?_
  exact ⟨_, ze, by (with_reducible repeat (first | apply Kd.R_alloc | apply Kd.R_drewN | apply Kd.R_drew)); exact Kd.R_mono (Kd.R_far (p := ⟨gb185, 1, none⟩) (Kd.R_far (p := ⟨gb185, 0, none⟩) (Kd.R_types HO194.out BK185.out (by decide)) (fun _ hk => hk.2) (.slice Ao18 t192.length co18)) (fun _ hk => hk.2) (.int .i64 t195)) (fun _ hk => trivial), zb HB⟩
 ·rw [if_neg c3] at H
  exact absurd H (by simp)

end Go.Proofs.Ytdhahifdcoinhaa.PFnHeadCut
