/- The plain law of FnFlowGot: for every input that fits, what the printed functions reckon is true. No condition but the row's own. -/
import Derived.Test.YtiafobkkngngoaaLm1
import Derived.Test.YtiafobkkngngoaaPFnFlowGotx3
namespace Go.Proofs.Ytiafobkkngngoaa.Pure
open Go.RowKit Go.Proofs.Ytiafobkkngngoaa.PFnFlowGot Go.Proofs.YtiafobkkngngoaaW.PrintWords Go.Proofs.YtiafobkkngngoaaW.PrintLast Go.Proofs.YtiafobkkngngoaaW.PrintMore Go.Proofs.Ytiafobkkngngoaa.Lm
set_option linter.unusedVariables false
set_option linter.unusedSimpArgs false

theorem pick_ev (l : List Int) (p n : Int) (hl : Bytes l) (hll : l.length ≤ 2000) (hp : 0 ≤ p) (hp1 : p ≤ 1000000000) (hn : 1 ≤ n) :
    EvQ (fun k => spec_l6Rd_pick.f k l p n) (fun r => 0 ≤ r.1 ∧ r.1 < n ∧ r.2 = p + 1) := by
  have e1 : wrap64 (p + 1) = p + 1 := w64_0 _ (by omega) (by omega)
  have e2 : wrap64 (p + 1 - 1) = p := by rw [show p + 1 - 1 = p by omega]; exact w64_0 _ (by omega) (by omega)
  unfold spec_l6Rd_pick.f
  simp only [e1]
  refine EvQ.neg (by omega) ?_
  refine EvQ.step (fun k => by rw [spec_l6Rd_pick.j0]) ?_
  simp only [e2]
  by_cases h0 : (l.length : Int) = 0
  · refine EvQ.pos (by simpa using h0) (EvQ.now ⟨by omega, by omega, rfl⟩)
  · refine EvQ.neg (by simpa using h0) ?_
    by_cases h1 : p < (l.length : Int)
    · refine EvQ.pos h1 (EvQ.pos hp (EvQ.neg (by omega) (EvQ.now ?_)))
      have hb := rd_bytes hl p
      rw [w64_0 (rd l p) hb.1 (by omega)]
      have := tmod_range (rd l p) n hb.1 (by omega)
      exact ⟨this.1, this.2, rfl⟩
    · have hlen : 0 < (l.length : Int) := by omega
      have hm1 := tmod_range p (l.length : Int) hp hlen
      have e7 : wrap64 (p * 7) = p * 7 := w64_0 _ (by omega) (by omega)
      have e3 : wrap64 (p * 7 + 3) = p * 7 + 3 := w64_0 _ (by omega) (by omega)
      have hm2 := tmod_range (p * 7 + 3) (l.length : Int) (by omega) hlen
      refine EvQ.neg h1 (EvQ.neg h0 ?_)
      simp only [e7, e3]
      refine EvQ.pos hm1.1 (EvQ.pos hm1.2 (EvQ.pos hm2.1 (EvQ.pos hm2.2 (EvQ.neg (by omega) (EvQ.now ?_)))))
      have ha := rd_bytes hl (Int.tmod p (l.length : Int))
      have hb := rd_bytes hl (Int.tmod (p * 7 + 3) (l.length : Int))
      have hd := tdiv_range p (l.length : Int) hp hlen
      generalize rd l (Int.tmod p (l.length : Int)) = a at *
      generalize rd l (Int.tmod (p * 7 + 3) (l.length : Int)) = b at *
      generalize Int.tdiv p (l.length : Int) = d at *
      rw [w64_0 a ha.1 (by omega), w64_0 b hb.1 (by omega), w64_0 d hd.1 (by omega), w64_0 (a * 131) (by omega) (by omega), w64_0 (b * 1117) (by omega) (by omega),
        w64_0 (p * 29) (by omega) (by omega), w64_0 (d * 53) (by omega) (by omega), w64_0 (a * 131 + b * 1117) (by omega) (by omega),
        w64_0 (a * 131 + b * 1117 + p * 29) (by omega) (by omega), w64_0 (a * 131 + b * 1117 + p * 29 + d * 53) (by omega) (by omega)]
      have hx : 0 ≤ a * 131 + b * 1117 + p * 29 + d * 53 := by omega
      have hx1 : a * 131 + b * 1117 + p * 29 + d * 53 < 2 ^ 62 := by omega
      generalize a * 131 + b * 1117 + p * 29 + d * 53 = x at *
      have hy := tdiv_range x 64 hx (by omega)
      rw [w64_0 (Int.tdiv x 64) hy.1 (by omega)]
      have := tmod_range _ n (xor_i64_nonneg x (Int.tdiv x 64) hx hx1 hy.1 (by omega)) (by omega)
      exact ⟨this.1, this.2, rfl⟩

theorem open_ev (l : List Int) (hl : Bytes l) :
    EvQ (fun _ => spec_l6Open.f l) (fun r => Bytes r.1 ∧ r.1.length ≤ 2000 ∧ r.2 = 0) := by
  unfold spec_l6Open.f
  refine EvQ.ite (fun h => EvQ.pos (by omega) (EvQ.now ⟨hl.take _, by simp; omega, rfl⟩)) (fun h => EvQ.now ⟨hl, (by omega : l.length ≤ 2000), rfl⟩)

theorem l71Flow_ev (l : List Int) (p : Int) (hl : Bytes l) (hll : l.length ≤ 2000) (hp : 0 ≤ p) (hp1 : p ≤ 100000000) :
    EvQ (fun k => spec_l71Flow.f k l p) (fun r => -1 ≤ r.1 ∧ r.1 ≤ 32 ∧ 0 ≤ r.2.1 ∧ r.2.1 ≤ 31 ∧ p ≤ r.2.2 ∧ r.2.2 ≤ p + 4) := by
  unfold spec_l71Flow.f
  refine EvQ.bind (pick_ev l p 32 hl hll hp (by omega) (by omega)) ?_
  rintro ⟨a, q⟩ ⟨ha, ha1, rfl⟩
  dsimp only at *
  refine EvQ.bind (pick_ev l _ 32 hl hll (by omega) (by omega) (by omega)) ?_
  rintro ⟨b, q⟩ ⟨hb, hb1, rfl⟩
  dsimp only at *
  refine EvQ.bind (pick_ev l _ 20 hl hll (by omega) (by omega) (by omega)) ?_
  rintro ⟨c, q⟩ ⟨hc, hc1, rfl⟩
  dsimp only at *
  refine EvQ.ite (fun h => ?_) (fun h => EvQ.now (by refine ⟨?_, ?_, ?_, ?_, ?_, ?_⟩ <;> dsimp only <;> omega))
  simp only [Option.bind_some]
  refine EvQ.bind (pick_ev l _ 2 hl hll (by omega) (by omega) (by omega)) ?_
  rintro ⟨d, q⟩ ⟨hd, hd1, rfl⟩
  dsimp only at *
  refine EvQ.pos hd (EvQ.pos (by simpa using hd1) (EvQ.now ?_))
  have : d = 0 ∨ d = 1 := by omega
  rcases this with rfl | rfl <;> simp [rd] <;> omega

theorem drawFlowGot_ev (l : List Int) (hl : Bytes l) :
    EvQ (fun k => spec_DrawFlowGot.f k l) (fun r => -1 ≤ r.1 ∧ r.1 ≤ 32 ∧ 0 ≤ r.2.1 ∧ r.2.1 ≤ 31 ∧ -1 ≤ r.2.2 ∧ r.2.2 < 19) := by
  unfold spec_DrawFlowGot.f
  refine EvQ.bind (open_ev l hl) ?_
  rintro ⟨m, p⟩ ⟨hm, hm1, rfl⟩
  refine EvQ.bind (l71Flow_ev m 0 hm hm1 (by omega) (by omega)) ?_
  rintro ⟨s, r, p⟩ ⟨h1, h2, h3, h4, h5, h6⟩
  dsimp only at *
  refine EvQ.bind (pick_ev m _ 20 hm hm1 (by omega) (by omega) (by omega)) ?_
  rintro ⟨n, q⟩ ⟨hn, hn1, rfl⟩
  dsimp only at *
  have e := w64 (n - 1) (by omega) (by omega)
  refine EvQ.now ⟨h1, h2, h3, h4, ?_⟩
  dsimp only
  omega

theorem l6In_eq (a b c : Int) : spec_l6In.f a b c = some (decide (b ≤ a ∧ a ≤ c)) := by
  unfold spec_l6In.f
  by_cases h : b ≤ a <;> by_cases h2 : a ≤ c <;> simp [h, h2]
theorem in_eq (a b c : Int) : impl_in.f a b c = some (decide (b ≤ a ∧ a ≤ c)) := by
  unfold impl_in.f
  by_cases h : b ≤ a <;> by_cases h2 : a ≤ c <;> simp [h, h2]

theorem spec_FlowOk_eq (s r : Int) : spec_FlowOk.f s r = some (decide ((0 ≤ s ∧ s ≤ 31) ∧ (0 ≤ r ∧ r ≤ 31))) := by
  unfold spec_FlowOk.f
  simp only [l6In_eq, Option.bind_some]
  by_cases h : 0 ≤ s ∧ s ≤ 31 <;> simp [h]
theorem impl_FlowOk_eq (s r : Int) : impl_FlowOk.f s r = some (decide ((0 ≤ s ∧ s ≤ 31) ∧ (0 ≤ r ∧ r ≤ 31))) := by
  unfold impl_FlowOk.f
  simp only [in_eq, Option.bind_some]
  by_cases h : 0 ≤ s ∧ s ≤ 31 <;> simp [h]

theorem FnFlowGot : laws_FnFlowGot.Pure := by
  intro l0 _ _ hw
  have hl := bytes_of_wf hw
  apply EvQ.tt
  unfold laws_FnFlowGot.f
  refine EvQ.ite (fun _ => EvQ.now rfl) (fun _ => ?_)
  refine EvQ.bind (drawFlowGot_ev l0 hl) ?_
  rintro ⟨s, r, n⟩ ⟨h1, h2, h3, h4, h5, h6⟩
  dsimp only at *
  have e1 : wrap64 (r - n) = r - n := w64 _ (by omega) (by omega)
  have e2 : wrap64 (r - (r - n)) = n := by rw [w64 _ (by omega) (by omega)]; omega
  by_cases g1 : 0 ≤ s ∧ s ≤ 31
  · have a4 : spec_FlowOk.f s r = some true := by rw [spec_FlowOk_eq]; simp; omega
    have a5 : impl_FlowOk.f s r = some true := by rw [impl_FlowOk_eq]; simp; omega
    by_cases g3 : 0 ≤ n ∧ n ≤ r
    · have a6 : impl_FlowOk.f s (r - n) = some true := by rw [impl_FlowOk_eq]; simp; omega
      have a1 : spec_FlowGot.f s r n = some (s, r - n, true) := by simp [spec_FlowGot.f, a4, l6In_eq, e1, g3]
      have a2 : impl_FlowGot.f s r n = some (s, r - n, true) := by simp [impl_FlowGot.f, a5, in_eq, e1, g3]
      simp only [a1, a2, a4, Option.bind_some]
      simp
      refine EvQ.step (fun k => by rw [laws_FnFlowGot.j0]) ?_
      simp only [e1, if_true, if_neg (show ¬ (false = true) by decide)]
      refine EvQ.bind (P := fun x => x = (s, r, n)) ?_ ?_
      · unfold impl_FlowGive.f
        simp only [a6, in_eq, Option.bind_some, if_true]
        refine EvQ.step (fun k => by rw [impl_FlowGive.j0]) ?_
        refine EvQ.neg (by simp; omega) (EvQ.ite (fun h => EvQ.now (by rw [e2])) (fun h => EvQ.now ?_))
        have : n = 0 := by omega
        subst this
        simp
      · rintro _ rfl
        simp
        exact EvQ.now rfl
    · have a1 : spec_FlowGot.f s r n = some (0, 0, false) := by simp [spec_FlowGot.f, a4, l6In_eq, e1, g3]
      have a2 : impl_FlowGot.f s r n = some (0, 0, false) := by simp [impl_FlowGot.f, a5, in_eq, e1, g3]
      simp only [a1, a2, a4, Option.bind_some]
      simp
      refine EvQ.step (fun k => by rw [laws_FnFlowGot.j0]) ?_
      simp
      refine EvQ.ite (fun _ => EvQ.now rfl) (fun _ => EvQ.now (by simp; omega))
  · have a4 : spec_FlowOk.f s r = some false := by rw [spec_FlowOk_eq]; simp; omega
    have a5 : impl_FlowOk.f s r = some false := by rw [impl_FlowOk_eq]; simp; omega
    have a1 : spec_FlowGot.f s r n = some (0, 0, false) := by simp [spec_FlowGot.f, a4]
    have a2 : impl_FlowGot.f s r n = some (0, 0, false) := by simp [impl_FlowGot.f, a5]
    simp only [a1, a2, a4, Option.bind_some]
    simp
    refine EvQ.step (fun k => by rw [laws_FnFlowGot.j0]) ?_
    simp
    exact EvQ.now rfl

end Go.Proofs.Ytiafobkkngngoaa.Pure
