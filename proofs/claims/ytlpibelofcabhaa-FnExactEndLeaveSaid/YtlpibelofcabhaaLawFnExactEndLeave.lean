-- WRITTEN BY wip/tools/rowy.py (the prover's own program)
import Derived.Test.YtlpibelofcabhaaRows
import Derived.Test.YtlpibelofcabhaaPFnExactEndLeavex14
import Derived.Test.YtlpibelofcabhaaPureFnExactEndLeave
import Derived.Test.YtlpibelofcabhaaLr
import Derived.WalkKit
import Derived.ProofKit
import Derived.OpenShut
import Derived.ShutString
import Derived.ChangeOld
import Derived.Below
import Derived.SizedLaws
namespace Go.Proofs.Ytlpibelofcabhaa.fnExactEndLeave
open Go.ChangeShapes Go.WideShapes Go.ChangeAt Go.RowKit Go.Proofs.YtlpibelofcabhaaW.PrintWords Go.Proofs.Ytlpibelofcabhaa.Lm Go.Proofs.Ytlpibelofcabhaa.PFnExactEndLeave
open Go.ChangeMaps (open_string shut_string)
set_option linter.unusedVariables false
theorem own : ownKnob Try.prog.godebug = none := by kernel_rfl
theorem laidOut : laidOutB Try.prog = true := by kernel_rfl
def GField (x : S192) : Prop := x.f0.size ≤ maxLen ∧ x.f1.size ≤ maxLen ∧ True
theorem opens_Field : Opens Try.prog 192 k192 GField := opens_iso (fun p => (⟨p.1, p.2.1, p.2.2⟩ : S192)) (fun _ => rfl) (opens_struct Try.underlying192 (by kernel_rfl) (opensL_cons (s0 := 1) (opens_string Try.underlying9) rfl (by kernel_rfl) (opensL_cons (s0 := 1) (opens_string Try.underlying9) rfl (by kernel_rfl) (opensL_one (sz := 1) (opens_bool Try.underlying4) rfl (by kernel_rfl)))))
def GFlow (x : S61) : Prop := (Lit.int .i64 x.f0).wf = true ∧ (Lit.int .i64 x.f1).wf = true
theorem opens_Flow : Opens Try.prog 61 k61 GFlow := opens_iso (fun p => (⟨p.1, p.2⟩ : S61)) (fun _ => rfl) (opens_struct Try.underlying61 (by kernel_rfl) (opensL_cons (s0 := 1) (opens_int Try.underlying3) rfl (by kernel_rfl) (opensL_one (sz := 1) (opens_int Try.underlying3) rfl (by kernel_rfl))))
def GStream (x : S167) : Prop := (Lit.int .i64 x.f0).wf = true ∧ (Lit.int .i64 x.f1).wf = true ∧ (x.f2.length ≤ maxLen ∧ ∀ y ∈ x.f2, GField y) ∧ x.f3.size ≤ maxLen ∧ True ∧ True ∧ (Lit.int .i64 x.f6).wf = true ∧ (x.f7.length ≤ maxLen ∧ ∀ y ∈ x.f7, GField y) ∧ x.f8.size ≤ maxLen ∧ True ∧ ((Lit.int .i64 x.f10.f0).wf = true ∧ (Lit.int .i64 x.f10.f1).wf = true)
theorem opens_Stream : Opens Try.prog 167 k167 GStream := opens_iso (fun p => (⟨p.1, p.2.1, p.2.2.1, p.2.2.2.1, p.2.2.2.2.1, p.2.2.2.2.2.1, p.2.2.2.2.2.2.1, p.2.2.2.2.2.2.2.1, p.2.2.2.2.2.2.2.2.1, p.2.2.2.2.2.2.2.2.2.1, p.2.2.2.2.2.2.2.2.2.2⟩ : S167)) (fun _ => rfl) (opens_struct Try.underlying167 (by kernel_rfl) (opensL_cons (s0 := 1) (opens_int Try.underlying3) rfl (by kernel_rfl) (opensL_cons (s0 := 1) (opens_int Try.underlying3) rfl (by kernel_rfl) (opensL_cons (s0 := 1) (opens_slice Try.underlying57 opens_Field (by kernel_rfl)) rfl (by kernel_rfl) (opensL_cons (s0 := 1) (opens_string Try.underlying9) rfl (by kernel_rfl) (opensL_cons (s0 := 1) (opens_bool Try.underlying4) rfl (by kernel_rfl) (opensL_cons (s0 := 1) (opens_bool Try.underlying4) rfl (by kernel_rfl) (opensL_cons (s0 := 1) (opens_int Try.underlying3) rfl (by kernel_rfl) (opensL_cons (s0 := 1) (opens_slice Try.underlying57 opens_Field (by kernel_rfl)) rfl (by kernel_rfl) (opensL_cons (s0 := 1) (opens_string Try.underlying9) rfl (by kernel_rfl) (opensL_cons (s0 := 1) (opens_bool Try.underlying4) rfl (by kernel_rfl) (opensL_one (sz := 2) opens_Flow rfl (by kernel_rfl)))))))))))))
def GFrame (x : S169) : Prop := (Lit.int .i64 x.f0).wf = true ∧ True ∧ (Lit.int .i64 x.f2).wf = true ∧ x.f3.size ≤ maxLen
theorem opens_Frame : Opens Try.prog 169 k169 GFrame := opens_iso (fun p => (⟨p.1, p.2.1, p.2.2.1, p.2.2.2⟩ : S169)) (fun _ => rfl) (opens_struct Try.underlying169 (by kernel_rfl) (opensL_cons (s0 := 1) (opens_int Try.underlying3) rfl (by kernel_rfl) (opensL_cons (s0 := 1) (opens_bool Try.underlying4) rfl (by kernel_rfl) (opensL_cons (s0 := 1) (opens_int Try.underlying3) rfl (by kernel_rfl) (opensL_one (sz := 1) (opens_string Try.underlying9) rfl (by kernel_rfl))))))
set_option maxRecDepth 100000 in
theorem lifted (os : Os) (started : os.Started) (H : Type) (enc : TypeId × Value → H) :
    ReturnsInHanded {} Try.checked os 10 .any (Rows.fnExactEndLeaveSpec.pre6 enc Try.prog Try.f10 Rows.fnExactEndLeaveRow.domain false) (Rows.fnExactEndLeaveSpec.post enc Try.prog Try.f10 false true false false) := by
  refine returnsInHanded_of_change_sized (C := Try.checked) own started (by kernel_rfl) Try.func10
    (ChangeSpec.witness6 (enc := enc) (C := Try.checked) false ⟨#[], #[.agg #[.bool false, .slice none 0 0, .int .i64 0, .slice none 0 0, .int .i64 0, .string ByteArray.empty, .slice none 0 0, .int .i64 0, .int .i64 0, .slice none 0 0, .bool false], .int .i64 0], []⟩ 8 (by kernel_rfl) (by kernel_rfl) (by kernel_rfl) (by kernel_rfl)) ?_
  intro W base args ds gs before hval0 hW hcnd hsz0 _
  have hval : ∀ (j : Nat) t v, Try.f10.params[j]? = some t → args[j]? = some v → Value.okWide Try.prog W .any base t v := hval0
  have hW' := hW
  obtain ⟨p, q, hA0, hV, rfl, hfz, hnd⟩ := hW
  have hA : DataW.TrodAll enc Try.prog W 0 (fun _ => true) true Try.f10.params.toList args.toList ds p := hA0
  rw [Try.params10] at hA hval
  obtain ⟨v0, vs0, d0, ds0, p0, q0, hargs, rfl, rfl, h0, r0⟩ := trodAll_cons hA
  obtain ⟨v1, vs1, d1, ds1, p1, q1, rfl, rfl, rfl, h1, r1⟩ := trodAll_cons r0
  obtain ⟨rfl, rfl, rfl⟩ := trodAll_nil r1
  obtain rfl : args = #[v0, v1] := by cases args; simp_all
  obtain ⟨rfl, rfl⟩ := trodVars_none hV
  obtain ⟨cs0, rfl, hz0⟩ := okWide_struct Try.underlying64 (hval 0 64 v0 rfl rfl)
  have k0 := h0
  have lt0 : ∀ x ∈ p0, x.block < W.heap.size := by obtain ⟨m, hm⟩ := k0; exact DataW.trod_lt m _ _ _ hm
  obtain ⟨fuel0, hf0⟩ := h0
  obtain ⟨⟨s0_0, ⟨⟨s0_1, s0_2⟩, ⟨⟨s0_3, s0_4⟩, ⟨s0_5, ⟨s0_6, ⟨⟨s0_7, s0_8⟩, ⟨s0_9, s0_10⟩⟩⟩⟩⟩⟩⟩, ⟨_, _, e0, rfl, ⟨_, _, rfl, ⟨_, _, rfl, ⟨As0_1, cs0_1, rfl, Cs0_1, Rs0_1⟩, rfl⟩, ⟨_, _, rfl, ⟨_, _, rfl, ⟨As0_3, cs0_3, rfl, Cs0_3, Rs0_3⟩, rfl⟩, ⟨_, _, rfl, rfl, ⟨_, _, rfl, ⟨As0_6, cs0_6, rfl, Cs0_6, Rs0_6⟩, ⟨_, _, rfl, ⟨_, _, rfl, rfl, rfl⟩, ⟨_, _, rfl, ⟨As0_9, cs0_9, rfl, Cs0_9, Rs0_9⟩, rfl⟩⟩⟩⟩⟩⟩⟩, g0⟩ := (opens_struct Try.underlying64 (by kernel_rfl) (opensL_cons (s0 := 1) (opens_bool Try.underlying4) rfl (by kernel_rfl) (opensL_cons (s0 := 2) (opens_struct Try.underlying59 (by kernel_rfl) (opensL_cons (s0 := 1) (opens_slice Try.underlying57 opens_Field (by kernel_rfl)) rfl (by kernel_rfl) (opensL_one (sz := 1) (opens_int Try.underlying3) rfl (by kernel_rfl)))) rfl (by kernel_rfl) (opensL_cons (s0 := 2) (opens_struct Try.underlying59 (by kernel_rfl) (opensL_cons (s0 := 1) (opens_slice Try.underlying57 opens_Field (by kernel_rfl)) rfl (by kernel_rfl) (opensL_one (sz := 1) (opens_int Try.underlying3) rfl (by kernel_rfl)))) rfl (by kernel_rfl) (opensL_cons (s0 := 1) (opens_string Try.underlying9) rfl (by kernel_rfl) (opensL_cons (s0 := 1) (opens_slice Try.underlying60 opens_Stream (by kernel_rfl)) rfl (by kernel_rfl) (opensL_cons (s0 := 2) (opens_struct Try.underlying61 (by kernel_rfl) (opensL_cons (s0 := 1) (opens_int Try.underlying3) rfl (by kernel_rfl) (opensL_one (sz := 1) (opens_int Try.underlying3) rfl (by kernel_rfl)))) rfl (by kernel_rfl) (opensL_cons (s0 := 1) (opens_slice Try.underlying62 opens_Frame (by kernel_rfl)) rfl (by kernel_rfl) (opensL_one (sz := 1) (opens_bool Try.underlying4) rfl (by kernel_rfl)))))))))) _ _ _ _ _ _ _ _ _ hf0
  have E0 : cs0.toList = [.bool s0_0, .slice As0_1 s0_1.length cs0_1, .int .i64 s0_2, .slice As0_3 s0_3.length cs0_3, .int .i64 s0_4, .string s0_5, .slice As0_6 s0_6.length cs0_6, .int .i64 s0_7, .int .i64 s0_8, .slice As0_9 s0_9.length cs0_9, .bool s0_10] := e0
  obtain rfl : cs0 = #[.bool s0_0, .slice As0_1 s0_1.length cs0_1, .int .i64 s0_2, .slice As0_3 s0_3.length cs0_3, .int .i64 s0_4, .string s0_5, .slice As0_6 s0_6.length cs0_6, .int .i64 s0_7, .int .i64 s0_8, .slice As0_9 s0_9.length cs0_9, .bool s0_10] := by cases cs0; simp_all
  obtain ⟨a1, rfl, rfl, rfl, w1⟩ := open_int Try.underlying3 (hval 1 3 v1 rfl rfl) h1
  clear hA0 hval0 hsz0
  obtain ⟨k, h⟩ := Pure.FnExactEndLeave s0_0 s0_1 s0_2 s0_3 s0_4 s0_5 s0_6 s0_7 s0_8 s0_9 s0_10 a1 g0 w1
  refine (laws_FnExactEndLeave.calls k s0_0 _ _ s0_1 s0_2 _ _ s0_3 s0_4 s0_5 _ _ s0_6 s0_7 s0_8 _ _ s0_9 s0_10 a1 true W Rs0_1 Cs0_1 Rs0_3 Cs0_3 Rs0_6 Cs0_6 Rs0_9 Cs0_9 h).mono fun e W' ⟨he, bel⟩ => ?_
  subst he
  exact ⟨_, rfl, _, _, _, [], _, [], hW', trodAll_mk1 (shut_bool Try.underlying4 _), (trodAll_cons_mk (Below.trod laidOut (by kernel_rfl) (of_decide_eq_true (by kernel_rfl)) k0 bel lt0) (trodAll_cons_mk (shut_int Try.underlying3 w1) trodAll_mk0)), rfl, bel.frame _, fun h => by cases h⟩
theorem over : Rows.fnExactEndLeaveRow.holds Try.pinned (OpenSpec.ofChange Rows.fnExactEndLeaveSpec) :=
  OpenClaim.holds_of_wide 10 Try.f10 rfl rfl rfl rfl rfl rfl rfl ⟨rfl, rfl, rfl, rfl, rfl⟩ rfl rfl rfl rfl rfl (by kernel_rfl) Try.func10 (by kernel_rfl)
    (of_decide_eq_true (by kernel_rfl)) (by unfold Func.isWrapper; first | (rw [if_pos (by decide +kernel)]; kernel_rfl) | (rw [if_neg (by decide +kernel)]; exact ⟨rfl, rfl⟩))
    (fun os started H enc _ => lifted os started H enc)
theorem proved : Rows.FnExactEndLeaveSaid := over
#print axioms proved
end Go.Proofs.Ytlpibelofcabhaa.fnExactEndLeave
namespace Go.Proofs.Ytlpibelofcabhaa
/-- The row, under a short name, for the claim. -/
theorem fnExactEndLeave_holds : Rows.FnExactEndLeaveSaid := fnExactEndLeave.proved
end Go.Proofs.Ytlpibelofcabhaa
