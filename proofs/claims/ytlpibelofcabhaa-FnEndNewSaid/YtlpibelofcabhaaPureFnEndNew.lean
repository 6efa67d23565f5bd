/- The plain law of FnEndNew: for every input that fits, what the printed functions reckon is true. No condition but the row's own. -/
import Derived.Test.YtlpibelofcabhaaLm0
import Derived.Test.YtlpibelofcabhaaLm1
import Derived.Test.YtlpibelofcabhaaLm2
import Derived.Test.YtlpibelofcabhaaLm3
import Derived.Test.YtlpibelofcabhaaPFnEndNewx13
namespace Go.Proofs.Ytlpibelofcabhaa.Pure
open Go.RowKit Go.Proofs.Ytlpibelofcabhaa.PFnEndNew Go.Proofs.YtlpibelofcabhaaW.PrintWords Go.Proofs.YtlpibelofcabhaaW.PrintLast Go.Proofs.YtlpibelofcabhaaW.PrintMore Go.Proofs.Ytlpibelofcabhaa.Lm
set_option linter.unusedVariables false
set_option linter.unusedSimpArgs false

theorem pick_ev (l : List Int) (p n : Int) (hl : Bytes l) (hll : l.length ≤ 2000) (hp : 0 ≤ p) (hp1 : p ≤ 1000000000) (hn : 1 ≤ n) :
  EvQ (fun k => spec_l6Rd_pick.f k l p n) (fun r => 0 ≤ r.1 ∧ r.1 < n ∧ r.2 = p + 1) := by
 have e1 : wrap64 (p + 1) = p + 1 := w64_0 _ (by omega) (by omega)
 have e2 : wrap64 (p + 1 - 1) = p := by rw [show p + 1 - 1 = p by omega]; exact w64_0 _ (by omega) (by omega)
 unfold spec_l6Rd_pick.f
 simp only [e1]
 refine EvQ.neg (by omega) ?_
 refine EvQ.step (fun k => by rw [spec_l6Rd_pick.j0]) ?_
 simp only [e2]
 by_cases h0 : (l.length : Int) = 0
 ·refine EvQ.pos (by simpa using h0) (EvQ.now ⟨by omega, by omega, rfl⟩)
 ·refine EvQ.neg (by simpa using h0) ?_
  by_cases h1 : p < (l.length : Int)
  ·refine EvQ.pos h1 (EvQ.pos hp (EvQ.neg (by omega) (EvQ.now ?_)))
   have hb := rd_bytes hl p
   rw [w64_0 (rd l p) hb.1 (by omega)]
   have := tmod_range (rd l p) n hb.1 (by omega)
   exact ⟨this.1, this.2, rfl⟩
  ·have hlen : 0 < (l.length : Int) := by omega
   have hm1 := tmod_range p (l.length : Int) hp hlen
   have e7 : wrap64 (p * 7) = p * 7 := w64_0 _ (by omega) (by omega)
   have e3 : wrap64 (p * 7 + 3) = p * 7 + 3 := w64_0 _ (by omega) (by omega)
   have hm2 := tmod_range (p * 7 + 3) (l.length : Int) (by omega) hlen
   refine EvQ.neg h1 (EvQ.neg h0 ?_)
   simp only [e7, e3]
   refine EvQ.pos hm1.1 (EvQ.pos hm1.2 (EvQ.pos hm2.1 (EvQ.pos hm2.2 (EvQ.neg (by omega) (EvQ.now ?_)))))
   have ha := rd_bytes hl (Int.tmod p (l.length : Int))
   have hb := rd_bytes hl (Int.tmod (p * 7 + 3) (l.length : Int))
   have hd := tdiv_range p (l.length : Int) hp hlen
   generalize rd l (Int.tmod p (l.length : Int)) = a at *
   generalize rd l (Int.tmod (p * 7 + 3) (l.length : Int)) = b at *
   generalize Int.tdiv p (l.length : Int) = d at *
   rw [w64_0 a ha.1 (by omega), w64_0 b hb.1 (by omega), w64_0 d hd.1 (by omega), w64_0 (a * 131) (by omega) (by omega), w64_0 (b * 1117) (by omega) (by omega),
    w64_0 (p * 29) (by omega) (by omega), w64_0 (d * 53) (by omega) (by omega), w64_0 (a * 131 + b * 1117) (by omega) (by omega),
    w64_0 (a * 131 + b * 1117 + p * 29) (by omega) (by omega), w64_0 (a * 131 + b * 1117 + p * 29 + d * 53) (by omega) (by omega)]
   have hx : 0 ≤ a * 131 + b * 1117 + p * 29 + d * 53 := by omega
   have hx1 : a * 131 + b * 1117 + p * 29 + d * 53 < 2 ^ 62 := by omega
   generalize a * 131 + b * 1117 + p * 29 + d * 53 = x at *
   have hy := tdiv_range x 64 hx (by omega)
   rw [w64_0 (Int.tdiv x 64) hy.1 (by omega)]
   have := tmod_range _ n (xor_i64_nonneg x (Int.tdiv x 64) hx hx1 hy.1 (by omega)) (by omega)
   exact ⟨this.1, this.2, rfl⟩
theorem open_ev (l : List Int) (hl : Bytes l) :
  EvQ (fun _ => spec_l6Open.f l) (fun r => Bytes r.1 ∧ r.1.length ≤ 2000 ∧ r.2 = 0) := by
 unfold spec_l6Open.f
 refine EvQ.ite (fun h => EvQ.pos (by omega) (EvQ.now ⟨hl.take _, by simp; omega, rfl⟩)) (fun h => EvQ.now ⟨hl, (by omega : l.length ≤ 2000), rfl⟩)
theorem endNew_rest (b : Bool) : EvQ (fun k => (laws_lkEnd.f k b [] 64 [] 64 ⟨#[]⟩ [] 16 16 [] false b [] 64 [] 64 ⟨#[]⟩ [] 16 16 [] false)) (fun r => r = true) ∧ Ev (fun k => impl_EndWrite.f k b [] 64 [] 64 ⟨#[]⟩ [] 16 16 [] false) (b, [], 64, [], 64, ⟨#[]⟩, [], 16, 16, [], false, ⟨#[]⟩) ∧
  Ev (fun k => impl_EndOk.f k b [] 64 [] 64 ⟨#[]⟩ [] 16 16 [] false) true ∧ Ev (fun k => impl_TableSize.f k [] 64) 0 := by
 refine ⟨EvQ.of_ev (Ev.of (fun k => laws_lkEnd.mono _ _ _ _ _ _ _ _ _ _ _ _ _ _ _ _ _ _ _ _ _ _ k) (show laws_lkEnd.f 20 b [] 64 [] 64 ⟨#[]⟩ [] 16 16 [] false b [] 64 [] 64 ⟨#[]⟩ [] 16 16 [] false = some true by cases b <;> kernel_rfl)) rfl, ?_, ?_, ?_⟩
 ·exact Ev.of (fun k => impl_EndWrite.mono _ _ _ _ _ _ _ _ _ _ _ k) (show impl_EndWrite.f 20 b [] 64 [] 64 ⟨#[]⟩ [] 16 16 [] false = _ by cases b <;> kernel_rfl)
 ·exact Ev.of (fun k => impl_EndOk.mono _ _ _ _ _ _ _ _ _ _ _ k) (show impl_EndOk.f 20 b [] 64 [] 64 ⟨#[]⟩ [] 16 16 [] false = _ by cases b <;> kernel_rfl)
 ·exact Ev.of (fun k => impl_TableSize.mono _ _ k) (show impl_TableSize.f 20 [] 64 = _ by kernel_rfl)
theorem FnEndNew : laws_FnEndNew.Pure := by
 intro l _ _ hw
 have hl := bytes_of_wf hw
 apply EvQ.tt
 unfold laws_FnEndNew.f
 refine EvQ.ite (fun _ => EvQ.now rfl) (fun _ => EvQ.bind (P := fun _ => True) ?_ ?_)
 ·unfold spec_DrawEndNew.f
  refine EvQ.bind (open_ev l hl) ?_
  rintro ⟨m, p⟩ ⟨hm, hm1, rfl⟩
  refine EvQ.bind (pick_ev m 0 2 hm hm1 (by omega) (by omega) (by omega)) ?_
  intro r _
  exact EvQ.now trivial
 ·intro b _
  obtain ⟨h1, h2, h3, h4⟩ := endNew_rest b
  have h1 := EvQ.ev h1
  simp only [impl_EndNew.f, spec_EndNew.f, spec_l21Table.f, Option.bind_some]
  refine EvQ.bindE h1 (EvQ.pos rfl (EvQ.bindE h2 (EvQ.bindE h3 (EvQ.pos rfl (EvQ.pos (by simp) (EvQ.pos (by rw [toList_data]) (EvQ.bindE h1 (EvQ.pos rfl (EvQ.neg (by decide) (EvQ.pos rfl (EvQ.bindE h4 (EvQ.bindE h4 (EvQ.now ?_)))))))))))))
  kernel_rfl

end Go.Proofs.Ytlpibelofcabhaa.Pure
