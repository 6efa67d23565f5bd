-- WRITTEN BY wip/tools/rowy.py (the prover's own program)
import Derived.Test.YtlpibelofcabhaaDoorRows
import Derived.Test.YtlpibelofcabhaaDoorCards
import Derived.Test.YtlpibelofcabhaaDoorTie
import Derived.LaidMore
import Derived.Stop.Joined
import Derived.SevenTiedAt
import Derived.Test.YtlpibelofcabhaaDoorPFnExactEndCallx17
import Derived.Test.YtlpibelofcabhaaDoorPureFnExactEndCall
import Derived.Test.YtlpibelofcabhaaDoorLr
import Derived.WalkKit
import Derived.ProofKit
import Derived.OpenShut
import Derived.ShutString
import Derived.ChangeOld
import Derived.Below
import Derived.SizedLaws
namespace Go.Proofs.YtlpibelofcabhaaDoor.fnExactEndCall
open Go.ChangeShapes Go.WideShapes Go.ChangeAt Go.RowKit Go.Proofs.YtlpibelofcabhaaDoorW.PrintWords Go.Proofs.YtlpibelofcabhaaDoor.Lm Go.Proofs.YtlpibelofcabhaaDoor.PFnExactEndCall
open Go.ChangeMaps (open_string shut_string)
set_option linter.unusedVariables false
theorem own : ownKnob Tryd.prog.godebug = none := by kernel_rfl
theorem laidOut : laidOutB Tryd.prog = true := by kernel_rfl
def GField (x : S96) : Prop := x.f0.size ≤ maxLen ∧ x.f1.size ≤ maxLen ∧ True
theorem opens_Field : Opens Tryd.prog 96 k96 GField := opens_iso (fun p => (⟨p.1, p.2.1, p.2.2⟩ : S96)) (fun _ => rfl) (opens_struct Tryd.underlying96 (by kernel_rfl) (opensL_cons (s0 := 1) (opens_string Tryd.underlying9) rfl (by kernel_rfl) (opensL_cons (s0 := 1) (opens_string Tryd.underlying9) rfl (by kernel_rfl) (opensL_one (sz := 1) (opens_bool Tryd.underlying4) rfl (by kernel_rfl)))))
def GFlow (x : S27) : Prop := (Lit.int .i64 x.f0).wf = true ∧ (Lit.int .i64 x.f1).wf = true
theorem opens_Flow : Opens Tryd.prog 27 k27 GFlow := opens_iso (fun p => (⟨p.1, p.2⟩ : S27)) (fun _ => rfl) (opens_struct Tryd.underlying27 (by kernel_rfl) (opensL_cons (s0 := 1) (opens_int Tryd.underlying3) rfl (by kernel_rfl) (opensL_one (sz := 1) (opens_int Tryd.underlying3) rfl (by kernel_rfl))))
def GStream (x : S73) : Prop := (Lit.int .i64 x.f0).wf = true ∧ (Lit.int .i64 x.f1).wf = true ∧ (x.f2.length ≤ maxLen ∧ ∀ y ∈ x.f2, GField y) ∧ x.f3.size ≤ maxLen ∧ True ∧ True ∧ (Lit.int .i64 x.f6).wf = true ∧ (x.f7.length ≤ maxLen ∧ ∀ y ∈ x.f7, GField y) ∧ x.f8.size ≤ maxLen ∧ True ∧ ((Lit.int .i64 x.f10.f0).wf = true ∧ (Lit.int .i64 x.f10.f1).wf = true)
theorem opens_Stream : Opens Tryd.prog 73 k73 GStream := opens_iso (fun p => (⟨p.1, p.2.1, p.2.2.1, p.2.2.2.1, p.2.2.2.2.1, p.2.2.2.2.2.1, p.2.2.2.2.2.2.1, p.2.2.2.2.2.2.2.1, p.2.2.2.2.2.2.2.2.1, p.2.2.2.2.2.2.2.2.2.1, p.2.2.2.2.2.2.2.2.2.2⟩ : S73)) (fun _ => rfl) (opens_struct Tryd.underlying73 (by kernel_rfl) (opensL_cons (s0 := 1) (opens_int Tryd.underlying3) rfl (by kernel_rfl) (opensL_cons (s0 := 1) (opens_int Tryd.underlying3) rfl (by kernel_rfl) (opensL_cons (s0 := 1) (opens_slice Tryd.underlying22 opens_Field (by kernel_rfl)) rfl (by kernel_rfl) (opensL_cons (s0 := 1) (opens_string Tryd.underlying9) rfl (by kernel_rfl) (opensL_cons (s0 := 1) (opens_bool Tryd.underlying4) rfl (by kernel_rfl) (opensL_cons (s0 := 1) (opens_bool Tryd.underlying4) rfl (by kernel_rfl) (opensL_cons (s0 := 1) (opens_int Tryd.underlying3) rfl (by kernel_rfl) (opensL_cons (s0 := 1) (opens_slice Tryd.underlying22 opens_Field (by kernel_rfl)) rfl (by kernel_rfl) (opensL_cons (s0 := 1) (opens_string Tryd.underlying9) rfl (by kernel_rfl) (opensL_cons (s0 := 1) (opens_bool Tryd.underlying4) rfl (by kernel_rfl) (opensL_one (sz := 2) opens_Flow rfl (by kernel_rfl)))))))))))))
def GFrame (x : S76) : Prop := (Lit.int .i64 x.f0).wf = true ∧ True ∧ (Lit.int .i64 x.f2).wf = true ∧ x.f3.size ≤ maxLen
theorem opens_Frame : Opens Tryd.prog 76 k76 GFrame := opens_iso (fun p => (⟨p.1, p.2.1, p.2.2.1, p.2.2.2⟩ : S76)) (fun _ => rfl) (opens_struct Tryd.underlying76 (by kernel_rfl) (opensL_cons (s0 := 1) (opens_int Tryd.underlying3) rfl (by kernel_rfl) (opensL_cons (s0 := 1) (opens_bool Tryd.underlying4) rfl (by kernel_rfl) (opensL_cons (s0 := 1) (opens_int Tryd.underlying3) rfl (by kernel_rfl) (opensL_one (sz := 1) (opens_string Tryd.underlying9) rfl (by kernel_rfl))))))
/-- What the row lists. -/
def laidL : List (String × DataW Unit) := [("math/bits.deBruijn32tab", Rows.laid_math_bits_deBruijn32tab), ("math/bits.deBruijn64tab", Rows.laid_math_bits_deBruijn64tab), ("internal/strconv.uint64pow10", Rows.laid_internal_strconv_uint64pow10)]
theorem door_met (os : Os) (args : Array Value) : laidMetH Tryd.prog laidL ((World.doorLaid Tryd.prog 400 os).forCall (fun _ _ => 0) ⟨#[], args, []⟩).memory :=
  laidMetH_of_parts3 (fuel := 8) (laidMet_of_run' 8 (by kernel_rfl) (by kernel_rfl)) (by kernel_rfl) (by kernel_rfl)
set_option maxRecDepth 100000 in
theorem lifted (os : Os) (started : os.Started) (H : Type) (enc : TypeId × Value → H) :
    ReturnsInHanded {} Tryd.checked os 3 .any (fun w args => (Rows.fnExactEndCallSpec.pre enc Tryd.prog Tryd.f3 [] false w args ∧ laidMetH Tryd.prog laidL w) ∧ sizedMet enc Tryd.prog Tryd.f3 (OpenSpec.ofChange Rows.fnExactEndCallSpec) false w args)
      (Rows.fnExactEndCallSpec.post enc Tryd.prog Tryd.f3 false true false false) := by
  refine returnsInHanded_of_change_and (C := Tryd.checked) (X := fun w _ => laidMetH Tryd.prog laidL w) (fun _ _ _ hh h => h.of_heap hh) own started (by kernel_rfl) Tryd.func3
    (ChangeSpec.witness_shaped (enc := enc) (C := Tryd.checked) (os := os) (X := fun w _ => laidMetH Tryd.prog laidL w) false (World.doorLaid Tryd.prog 400 os) #[.agg #[.bool false, .slice none 0 0, .int .i64 0, .slice none 0 0, .int .i64 0, .string ByteArray.empty, .slice none 0 0, .int .i64 0, .int .i64 0, .slice none 0 0, .bool false], .string ByteArray.empty, .string ByteArray.empty] 8 rfl (World.shaped_of_RefB (by kernel_rfl) (by kernel_rfl)) (by kernel_rfl) (by kernel_rfl) (by kernel_rfl) (door_met os _)) ?_
  intro W base args ds gs before hval0 hW hcnd hsz0 hL _
  have hval : ∀ (j : Nat) t v, Tryd.f3.params[j]? = some t → args[j]? = some v → Value.okWide Tryd.prog W .any base t v := hval0
  have hW' := hW
  obtain ⟨p, q, hA0, hV, rfl, hfz, hnd⟩ := hW
  have hA : DataW.TrodAll enc Tryd.prog W 0 (fun _ => true) true Tryd.f3.params.toList args.toList ds p := hA0
  rw [Tryd.params3] at hA hval
  obtain ⟨v0, vs0, d0, ds0, p0, q0, hargs, rfl, rfl, h0, r0⟩ := trodAll_cons hA
  obtain ⟨v1, vs1, d1, ds1, p1, q1, rfl, rfl, rfl, h1, r1⟩ := trodAll_cons r0
  obtain ⟨v2, vs2, d2, ds2, p2, q2, rfl, rfl, rfl, h2, r2⟩ := trodAll_cons r1
  obtain ⟨rfl, rfl, rfl⟩ := trodAll_nil r2
  obtain rfl : args = #[v0, v1, v2] := by cases args; simp_all
  obtain ⟨rfl, rfl⟩ := trodVars_none hV
  obtain ⟨cs0, rfl, hz0⟩ := okWide_struct Tryd.underlying30 (hval 0 30 v0 rfl rfl)
  have k0 := h0
  have lt0 : ∀ x ∈ p0, x.block < W.heap.size := by obtain ⟨m, hm⟩ := k0; exact DataW.trod_lt m _ _ _ hm
  obtain ⟨fuel0, hf0⟩ := h0
  obtain ⟨⟨s0_0, ⟨⟨s0_1, s0_2⟩, ⟨⟨s0_3, s0_4⟩, ⟨s0_5, ⟨s0_6, ⟨⟨s0_7, s0_8⟩, ⟨s0_9, s0_10⟩⟩⟩⟩⟩⟩⟩, ⟨_, _, e0, rfl, ⟨_, _, rfl, ⟨_, _, rfl, ⟨As0_1, cs0_1, rfl, Cs0_1, Rs0_1⟩, rfl⟩, ⟨_, _, rfl, ⟨_, _, rfl, ⟨As0_3, cs0_3, rfl, Cs0_3, Rs0_3⟩, rfl⟩, ⟨_, _, rfl, rfl, ⟨_, _, rfl, ⟨As0_6, cs0_6, rfl, Cs0_6, Rs0_6⟩, ⟨_, _, rfl, ⟨_, _, rfl, rfl, rfl⟩, ⟨_, _, rfl, ⟨As0_9, cs0_9, rfl, Cs0_9, Rs0_9⟩, rfl⟩⟩⟩⟩⟩⟩⟩, g0⟩ := (opens_struct Tryd.underlying30 (by kernel_rfl) (opensL_cons (s0 := 1) (opens_bool Tryd.underlying4) rfl (by kernel_rfl) (opensL_cons (s0 := 2) (opens_struct Tryd.underlying24 (by kernel_rfl) (opensL_cons (s0 := 1) (opens_slice Tryd.underlying22 opens_Field (by kernel_rfl)) rfl (by kernel_rfl) (opensL_one (sz := 1) (opens_int Tryd.underlying3) rfl (by kernel_rfl)))) rfl (by kernel_rfl) (opensL_cons (s0 := 2) (opens_struct Tryd.underlying24 (by kernel_rfl) (opensL_cons (s0 := 1) (opens_slice Tryd.underlying22 opens_Field (by kernel_rfl)) rfl (by kernel_rfl) (opensL_one (sz := 1) (opens_int Tryd.underlying3) rfl (by kernel_rfl)))) rfl (by kernel_rfl) (opensL_cons (s0 := 1) (opens_string Tryd.underlying9) rfl (by kernel_rfl) (opensL_cons (s0 := 1) (opens_slice Tryd.underlying25 opens_Stream (by kernel_rfl)) rfl (by kernel_rfl) (opensL_cons (s0 := 2) (opens_struct Tryd.underlying27 (by kernel_rfl) (opensL_cons (s0 := 1) (opens_int Tryd.underlying3) rfl (by kernel_rfl) (opensL_one (sz := 1) (opens_int Tryd.underlying3) rfl (by kernel_rfl)))) rfl (by kernel_rfl) (opensL_cons (s0 := 1) (opens_slice Tryd.underlying28 opens_Frame (by kernel_rfl)) rfl (by kernel_rfl) (opensL_one (sz := 1) (opens_bool Tryd.underlying4) rfl (by kernel_rfl)))))))))) _ _ _ _ _ _ _ _ _ hf0
  have E0 : cs0.toList = [.bool s0_0, .slice As0_1 s0_1.length cs0_1, .int .i64 s0_2, .slice As0_3 s0_3.length cs0_3, .int .i64 s0_4, .string s0_5, .slice As0_6 s0_6.length cs0_6, .int .i64 s0_7, .int .i64 s0_8, .slice As0_9 s0_9.length cs0_9, .bool s0_10] := e0
  obtain rfl : cs0 = #[.bool s0_0, .slice As0_1 s0_1.length cs0_1, .int .i64 s0_2, .slice As0_3 s0_3.length cs0_3, .int .i64 s0_4, .string s0_5, .slice As0_6 s0_6.length cs0_6, .int .i64 s0_7, .int .i64 s0_8, .slice As0_9 s0_9.length cs0_9, .bool s0_10] := by cases cs0; simp_all
  obtain ⟨a1, rfl, rfl, rfl, w1⟩ := open_string Tryd.underlying9 (hval 1 9 v1 rfl rfl) h1
  obtain ⟨a2, rfl, rfl, rfl, w2⟩ := open_string Tryd.underlying9 (hval 2 9 v2 rfl rfl) h2
  clear hA0 hval0 hsz0
  obtain ⟨k, h⟩ := Pure.FnExactEndCall s0_0 s0_1 s0_2 s0_3 s0_4 s0_5 s0_6 s0_7 s0_8 s0_9 s0_10 a1 a2 g0 w1 w2
  refine (laws_FnExactEndCall.calls k s0_0 _ _ s0_1 s0_2 _ _ s0_3 s0_4 s0_5 _ _ s0_6 s0_7 s0_8 _ _ s0_9 s0_10 a1 a2 true W Rs0_1 Cs0_1 Rs0_3 Cs0_3 Rs0_6 Cs0_6 Rs0_9 Cs0_9 h).mono fun e W' ⟨he, bel⟩ => ?_
  subst he
  exact ⟨_, rfl, _, _, _, [], _, [], hW', trodAll_mk1 (shut_bool Tryd.underlying4 _), (trodAll_cons_mk (Below.trod laidOut (by kernel_rfl) (of_decide_eq_true (by kernel_rfl)) k0 bel lt0) (trodAll_cons_mk (shut_string Tryd.underlying9 w1) (trodAll_cons_mk (shut_string Tryd.underlying9 w2) trodAll_mk0))), rfl, bel.frame _, fun h => by cases h⟩
theorem over : Rows.fnExactEndCallRow.holds Tryd.pinned (OpenSpec.ofChange Rows.fnExactEndCallSpec) :=
  OpenClaim.holds_of_wide 3 Tryd.f3 rfl rfl rfl rfl rfl rfl rfl ⟨rfl, rfl, rfl, rfl, rfl⟩ rfl rfl rfl rfl rfl (by kernel_rfl) Tryd.func3 (by kernel_rfl)
    (of_decide_eq_true (by kernel_rfl)) (by unfold Func.isWrapper; first | (rw [if_pos (by decide +kernel)]; kernel_rfl) | (rw [if_neg (by decide +kernel)]; exact ⟨rfl, rfl⟩))
    (fun os started H enc _ => lifted os started H enc)
theorem card : Rows.FnExactEndCallCardSaid :=
  Claim7.holds_tied_plain_at .later [] [.data, .data, .data] true (true, "1c04bd6a86266981895bd546d5c898ccc36c39184aefc0399995b0a5a2a89666") false
    over (fun _ h => by cases h) (by kernel_rfl) (fun _ h => by cases h) fnExactEndCall_row_tie rfl ⟨rfl, rfl⟩ (by kernel_rfl) rfl
    (fun f fn hf hfn => by
      obtain rfl : f = 3 := Option.some.inj ((show Tryd.prog.funcNamed Rows.fnExactEndCallRow.func = some 3 by kernel_rfl).symm.trans hf) |>.symm
      obtain rfl : fn = Tryd.f3 := (Option.some.inj (Tryd.func3.symm.trans hfn)).symm
      exact ⟨by kernel_rfl, fun j t ht => by
        have hm : t ∈ Tryd.f3.params.toList := by simpa using Array.mem_of_getElem? ht
        have hall : (Tryd.f3.params.toList.all fun u => !Tryd.prog.wantsStandIn u) = true := by kernel_rfl
        exact (show Tryd.prog.wantsStandIn t = false by simpa using List.all_eq_true.1 hall t hm)⟩)
    (by kernel_rfl)
theorem proved : Rows.FnExactEndCallCardSaid := card
#print axioms proved
end Go.Proofs.YtlpibelofcabhaaDoor.fnExactEndCall
namespace Go.Proofs.YtlpibelofcabhaaDoor
/-- The card, under a short name, for the claim. -/
theorem fnExactEndCall_holds : Rows.FnExactEndCallCardSaid := fnExactEndCall.proved
end Go.Proofs.YtlpibelofcabhaaDoor
