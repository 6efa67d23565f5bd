-- WRITTEN BY wip/tools/rowx.py (the prover's own program)
import Derived.Test.YtdhahifdcoinhaaRows
import Derived.Test.YtdhahifdcoinhaaPFnExactHeadWritex11
import Derived.Test.YtdhahifdcoinhaaPureFnExactHeadWrite
import Derived.Test.YtdhahifdcoinhaaLr
import Derived.WalkKit
import Derived.ProofKit
import Derived.OpenShut
import Derived.ShutString
import Derived.ChangeOld
import Derived.Below
import Derived.SizedLaws
namespace Go.Proofs.Ytdhahifdcoinhaa.fnExactHeadWrite
open Go.ChangeShapes Go.WideShapes Go.ChangeAt Go.RowKit Go.Proofs.YtdhahifdcoinhaaW.PrintWords Go.Proofs.Ytdhahifdcoinhaa.Lm Go.Proofs.Ytdhahifdcoinhaa.PFnExactHeadWrite
open Go.ChangeMaps (open_string shut_string)
set_option linter.unusedVariables false
theorem own : ownKnob Try.prog.godebug = none := by kernel_rfl
theorem laidOut : laidOutB Try.prog = true := by kernel_rfl
def GF (x : S53) : Prop := x.f0.size ≤ maxLen ∧ x.f1.size ≤ maxLen ∧ True
theorem opens_field : Opens Try.prog 53 k53 GF := opens_iso (fun p => (⟨p.1, p.2.1, p.2.2⟩ : S53)) (fun _ => rfl) (opens_struct3 Try.underlying53 (opens_string Try.underlying9) (opens_string Try.underlying9) (opens_bool Try.underlying4) rfl (by kernel_rfl) (by kernel_rfl) (by kernel_rfl))
theorem opens_fields : Opens Try.prog 38 (Kd.slice 53 k53) (fun l => l.length ≤ maxLen ∧ ∀ x ∈ l, GF x) := opens_slice Try.underlying38 opens_field (by kernel_rfl)
theorem opens_table : Opens Try.prog 40 (Kd.pair (Kd.slice 53 k53) (Kd.int .i64)) (fun x => (x.1.length ≤ maxLen ∧ ∀ y ∈ x.1, GF y) ∧ (Lit.int .i64 x.2).wf = true) := opens_struct2 Try.underlying40 opens_fields (opens_int Try.underlying3) rfl (by kernel_rfl) (by kernel_rfl)
set_option maxRecDepth 100000 in
theorem lifted (os : Os) (started : os.Started) (H : Type) (enc : TypeId × Value → H) :
    ReturnsInHanded {} Try.checked os 14 .any (Rows.fnExactHeadWriteSpec.pre6 enc Try.prog Try.f14 Rows.fnExactHeadWriteRow.domain false) (Rows.fnExactHeadWriteSpec.post enc Try.prog Try.f14 false true false false) := by
  refine returnsInHanded_of_change_sized (C := Try.checked) own started (by kernel_rfl) Try.func14
    (ChangeSpec.witness6 (enc := enc) (C := Try.checked) false ⟨#[], #[.agg #[.slice none 0 0, .int .i64 0], .slice none 0 0], []⟩ 8 (by kernel_rfl) (by kernel_rfl) (by kernel_rfl) (by kernel_rfl)) ?_
  intro W base args ds gs before hval0 hW hcnd hsz0 _
  have hval : ∀ (j : Nat) t v, Try.f14.params[j]? = some t → args[j]? = some v → Value.okWide Try.prog W .any base t v := hval0
  have hW' := hW
  obtain ⟨p, q, hA0, hV, rfl, hfz, hnd⟩ := hW
  have hA : DataW.TrodAll enc Try.prog W 0 (fun _ => true) true Try.f14.params.toList args.toList ds p := hA0
  rw [Try.params14] at hA hval
  obtain ⟨v0, vs0, d0, ds0, p0, q0, hargs, rfl, rfl, h0, r0⟩ := trodAll_cons hA
  obtain ⟨v1, vs1, d1, ds1, p1, q1, rfl, rfl, rfl, h1, r1⟩ := trodAll_cons r0
  obtain ⟨rfl, rfl, rfl⟩ := trodAll_nil r1
  obtain rfl : args = #[v0, v1] := by cases args; simp_all
  obtain ⟨rfl, rfl⟩ := trodVars_none hV
  obtain ⟨cs0, rfl, hz0⟩ := okWide_struct Try.underlying40 (hval 0 40 v0 rfl rfl)
  have k0 := h0
  have lt0 : ∀ x ∈ p0, x.block < W.heap.size := by obtain ⟨m, hm⟩ := k0; exact DataW.trod_lt m _ _ _ hm
  obtain ⟨b0, c0, l0, m0, e0, hr0, hc0, g0⟩ : ∃ b c, ∃ (l : List S53) (m : Int), cs0 = #[.slice b l.length c, .int .i64 m] ∧ Kd.C k53 W b l.length l ∧ l.length ≤ c ∧ ((l.length ≤ maxLen ∧ ∀ x ∈ l, GF x) ∧ (Lit.int .i64 m).wf = true) := by
    obtain ⟨fuel, hf⟩ := h0
    obtain ⟨⟨l, m⟩, ⟨c0, c1, hcs, ⟨A0, cc, rfl, hlc, hC⟩, rfl⟩, hG⟩ := opens_table _ _ _ _ _ _ _ _ _ hf
    refine ⟨A0, cc, l, m, ?_, hC, hlc, hG⟩
    have hcs2 : cs0.toList = [.slice A0 l.length cc, .int .i64 m] := hcs
    cases cs0; simp_all
  subst e0
  obtain ⟨b1, n1, c1, rfl⟩ := okWide_slice Try.underlying38 (hval 1 38 v1 rfl rfl)
  have k1 := h1
  have lt1 : ∀ x ∈ p1, x.block < W.heap.size := by obtain ⟨m, hm⟩ := k1; exact DataW.trod_lt m _ _ _ hm
  obtain ⟨l1, hr1, hc1, g1⟩ : ∃ l, (n1 = l.length ∧ Kd.C k53 W b1 l.length l) ∧ l.length ≤ c1 ∧ (l.length ≤ maxLen ∧ ∀ x ∈ l, GF x) := by
    obtain ⟨fuel, hf⟩ := h1
    obtain ⟨l, ⟨A0, c0, hcs, hlc, hC⟩, hG⟩ := opens_fields _ _ _ _ _ _ _ _ _ hf
    simp [Value.cells] at hcs
    obtain ⟨rfl, rfl, rfl⟩ := hcs
    exact ⟨l, ⟨rfl, hC⟩, hlc, hG⟩
  obtain ⟨e1, hr1⟩ := hr1
  subst e1
  clear hA0 hval0 hsz0
  obtain ⟨k, h⟩ := Pure.FnExactHeadWrite l0 m0 l1 g0 g1
  refine (laws_FnExactHeadWrite.calls k _ _ l0 m0 _ _ l1 true W hr0 hc0 hr1 hc1 h).mono fun e W' ⟨he, bel⟩ => ?_
  subst he
  exact ⟨_, rfl, _, _, _, [], _, [], hW', trodAll_mk1 (shut_bool Try.underlying4 _), (trodAll_cons_mk (Below.trod laidOut (by kernel_rfl) (of_decide_eq_true (by kernel_rfl)) k0 bel lt0) (trodAll_cons_mk (Below.trod laidOut (by kernel_rfl) (of_decide_eq_true (by kernel_rfl)) k1 bel lt1) trodAll_mk0)), rfl, bel.frame _, fun h => by cases h⟩
theorem over : Rows.fnExactHeadWriteRow.holds Try.pinned (OpenSpec.ofChange Rows.fnExactHeadWriteSpec) :=
  OpenClaim.holds_of_wide 14 Try.f14 rfl rfl rfl rfl rfl rfl rfl ⟨rfl, rfl, rfl, rfl, rfl⟩ rfl rfl rfl rfl rfl (by kernel_rfl) Try.func14 (by kernel_rfl)
    (of_decide_eq_true (by kernel_rfl)) (by unfold Func.isWrapper; first | (rw [if_pos (by decide +kernel)]; kernel_rfl) | (rw [if_neg (by decide +kernel)]; exact ⟨rfl, rfl⟩))
    (fun os started H enc _ => lifted os started H enc)
theorem proved : Rows.FnExactHeadWriteSaid := over
#print axioms proved
end Go.Proofs.Ytdhahifdcoinhaa.fnExactHeadWrite
namespace Go.Proofs.Ytdhahifdcoinhaa
/-- The row, under a short name, for the claim. -/
theorem fnExactHeadWrite_holds : Rows.FnExactHeadWriteSaid := fnExactHeadWrite.proved
end Go.Proofs.Ytdhahifdcoinhaa
