/- FnWorldFrames holds: part 0 of a proof that the given program meets it (printed texts and walks of our own, made short by a program). No condition. -/
import Derived.ArgAppend
import Derived.Below
import Derived.BigQuiet
import Derived.ChangeSlices
import Derived.Deep.AppendLies
import Derived.Deep.CutBlock
import Derived.Deep.DeepCutAuto
import Derived.Deep.Draws
import Derived.Deep.LoopGhost
import Derived.Deep.OwnRows
import Derived.Deep.QuietTactic
import Derived.Deep.RegionHeld3
import Derived.IntWalk
import Derived.KernelRfl
import Derived.Laws.BitsLemmas
import Derived.Laws.BytesArg
import Derived.Laws.IdiomCopy
import Derived.Laws.MakeOwn
import Derived.Laws.OwnMore
import Derived.Laws.Rows
import Derived.Laws.Slices
import Derived.Laws.StructEq
import Derived.Lib.AppendStr
import Derived.Lib.Bytealg
import Derived.Lib.ConvBytes
import Derived.Maps.AppendAt
import Derived.OrdersHeld
import Derived.OwnWalk
import Derived.RowKit
import Derived.RowKit3
import Derived.SizedLaws
import Derived.Tactics
import Derived.WalkKit
import Derived.WideLaws
set_option linter.unusedVariables false
set_option linter.unusedSimpArgs false
set_option maxHeartbeats 8000000
set_option maxRecDepth 100000
namespace Go.Proofs.YtokblgdgpnakpaaGreatW.PrintLast
section
variable {P:Program} {ops:Array Oper} {Q:Exit→Act→World→Prop} {md:Region.Mode} {S:World→Prop} {ds:List Nat}
def Region.reachB(md:Region.Mode)(ops:Array Oper)(i:Nat):Nat→Nat→Bool
 |0,_=>false
 |fuel+1,d=>match ops[d]? with
  |some o=>o.after.any fun e=>Region.binds md e&&(e.on==i||Region.reachB md ops i fuel e.on)
  |none=>false
def Region.closedB(md:Region.Mode)(ops:Array Oper)(listed:Array Bool):Bool:=
 (List.range ops.size).all fun j=> !listed.getD j false||match ops[j]? with
  |some o=>o.after.all fun e=> !Region.binds md e||listed.getD e.on false
  |none=>true
def Region.lastB(md:Region.Mode)(ops:Array Oper)(listed:Array Bool)(ds:List Nat)(i:Nat):Bool:=
 ds.all fun d=>listed.getD d true||Region.reachB md ops i ops.size d
def kX(md:Region.Mode)(ops:Array Oper)(listed:Array Bool):Prop:=
 ∀j oj,ops[j]?=some oj→listed.getD j false=true→∀e∈oj.after,Region.binds md e=true→listed.getD e.on false=true
theorem Region.closedB_spec{listed:Array Bool}(h:Region.closedB md ops listed=true):kX md ops listed:=by
 intro j oj hj hl e he hb
 have hlt:j<ops.size:=(Array.getElem?_eq_some_iff.1 hj).1
 have h1:=List.all_eq_true.1 h j (List.mem_range.2 hlt)
 simp only[hl,hj,Bool.not_true,Bool.false_or]at h1
 have h2:=Array.all_eq_true_iff_forall_mem.1 h1 e he
 simpa [hb]using h2
theorem kX.set{listed:Array Bool}{i:Nat}(h:kX md ops listed)(hi:i∈Region.ready md ops listed):kX md ops (listed.setIfInBounds i true):=by
 obtain⟨_,oi,hoi,hall⟩:=mem_ready.1 hi
 intro j oj hj hl e he hb
 by_cases hij:i=j
 ·subst hij
  have:oj=oi:=Option.some.inj (hj.symm.trans hoi)
  subst this
  exact getD_set_true (hall e he hb)
 ·rw[getD_set_ne false hij]at hl
  exact getD_set_true (h j oj hj hl e he hb)
theorem Region.reach_listed{listed:Array Bool}{i:Nat}(hc:kX md ops listed):∀(fuel d:Nat),Region.reachB md ops i fuel d=true→listed.getD d false=true→listed.getD i false=true
 |0,_,h,_=>by simp[Region.reachB]at h
 |fuel+1,d,h,hl=>by
  unfold Region.reachB at h
  cases ho:ops[d]? with
  |none=>rw[ho]at h;simp at h
  |some o=>
   rw[ho]at h
   obtain⟨e,he,h1⟩:=Array.any_eq_true'.1 h
   simp only[Bool.and_eq_true,Bool.or_eq_true,beq_iff_eq]at h1
   have hle:=hc d o ho hl e he h1.1
   rcases h1.2 with h2|h2
   ·rw[←h2];exact hle
   ·exact Region.reach_listed hc fuel e.on h2 hle
theorem Region.reach_not_ready{listed:Array Bool}{i d fuel:Nat}(hc:kX md ops listed)(hr:Region.reachB md ops i fuel d=true)(hun:listed.getD i true=false):d∉Region.ready md ops listed:=by
 intro hd
 obtain⟨_,o,ho,hall⟩:=mem_ready.1 hd
 have hi:listed.getD i false=true:=by
  cases fuel with
  |zero=>simp[Region.reachB]at hr
  |succ n=>
   unfold Region.reachB at hr
   rw[ho]at hr
   obtain⟨e,he,h1⟩:=Array.any_eq_true'.1 hr
   simp only[Bool.and_eq_true,Bool.or_eq_true,beq_iff_eq]at h1
   have hle:=hall e he h1.1
   rcases h1.2 with h2|h2
   ·rw[←h2];exact hle
   ·exact Region.reach_listed hc n e.on h2 hle
 rcases Nat.lt_or_ge i listed.size with h'|h'
 ·simp[h']at hun hi
  rw[hun]at hi
  cases hi
 ·simp[Array.getElem?_eq_none h']at hun
def bJ(P:Program)(md:Region.Mode)(ops:Array Oper)(Q:Exit→Act→World→Prop)(S:World→Prop)(ds:List Nat):Nat→Array Bool→Act→World→Prop
 |0,listed,a,w=>Region.ready md ops listed=[]∧Q .normal a w
 |fuel+1,listed,a,w=>
  (Region.ready md ops listed=[]→Q .normal a w)∧
  ∀i∈Region.ready md ops listed,wpOp P ops Q i (fun a' w'=>(i∉ds→S w→S w')∧bJ P md ops Q S ds fuel (listed.setIfInBounds i true) a' w') a w
theorem yt:∀(fuel:Nat)(listed:Array Bool)(a:Act)(w:World),bJ P md ops Q S ds fuel listed a w→wpAny P md ops Q fuel listed a w
 |0,_,_,_,h=>h
 |fuel+1,_,_,_,h=>⟨h.1,fun i hi=>wpOp_mono (fun a' w' h'=>yt fuel _ a' w' h'.2) (h.2 i hi)⟩
theorem DU{i:Nat}{oi:Oper}{v:Value}(hi:ops[i]?=some oi)(hsel:∀(j:Nat)(o:Oper)cs b,ops[j]?=some o→o.op≠ .select cs b)
 (hQ:∀c a w,Q (.panic c) (a.put oi.dst v) w→Q (.panic c) a w)(n:Nat):
 ∀(fuel:Nat)(listed:Array Bool)(a:Act)(w:World),
  (∀j oj,ops[j]?=some oj→j≠i→listed.getD j true=false→(∀e∈oj.after,Region.binds md e=true→e.on≠i)→oi.apart ops oj=true)→
  kX md ops listed→(∀d∈ds,listed.getD d true=false→Region.reachB md ops i n d=true)→
  i∈Region.ready md ops listed→YieldsIf P ops S oi v a→S w→
  bJ P md ops Q S ds fuel (listed.setIfInBounds i true) (a.put oi.dst v) w→bJ P md ops Q S ds (fuel+1) listed a w:=by
 intro fuel
 induction fuel with
 |zero=>
  intro listed a w _ _ _ hr hy hS H
  refine⟨fun h=>(by rw[h]at hr;cases hr),fun j hj=>?_⟩
  by_cases hji:j=i
  ·subst hji;exact hy.wpOp hi hS ⟨fun _ h=>h,H⟩
  ·have:=ready_mono hj hji
   rw[H.1]at this
   cases this
 |succ fuel ih=>
  intro listed a w hfree hc hd hr hy hS H
  refine⟨fun h=>(by rw[h]at hr;cases hr),fun j hj=>?_⟩
  by_cases hji:j=i
  ·subst hji;exact hy.wpOp hi hS ⟨fun _ h=>h,H⟩
  ·have h1:=H.2 j (ready_mono hj hji)
   obtain⟨hjun,oj,hoj,hall⟩:=mem_ready.1 hj
   have hiun:=(mem_ready.1 hr).1
   have hnot:∀e∈oj.after,Region.binds md e=true→e.on≠i:=fun e he hb heq=>by
    have h1:=hall e he hb
    rw[heq]at h1
    rcases Nat.lt_or_ge i listed.size with h'|h'
    ·simp[h']at hiun h1;rw[hiun]at h1;cases h1
    ·simp[Array.getElem?_eq_none h']at h1
   have hjd:j∉ds:=fun hm=>Region.reach_not_ready hc (hd j hm hjun) hiun hj
   have h2:=wpOp_putIf hoj (hfree j oj hoj hji hjun hnot) (fun cs b=>hsel i oi cs b hi) (fun cs b=>hsel j oj cs b hoj) hQ hy h1
   have hfree':∀k ok,ops[k]?=some ok→k≠i→(listed.setIfInBounds j true).getD k true=false→
    (∀e∈ok.after,Region.binds md e=true→e.on≠i)→oi.apart ops ok=true:=fun k ok hk hki hun hno=>by
    refine hfree k ok hk hki ?_ hno
    by_cases hjk:j=k
    ·subst hjk;exact hjun
    ·rw[getD_set_ne true hjk]at hun;exact hun
   have hd':∀d∈ds,(listed.setIfInBounds j true).getD d true=false→Region.reachB md ops i n d=true:=fun d hm hun=>by
    refine hd d hm ?_
    by_cases hjk:j=d
    ·subst hjk;exact hjun
    ·rw[getD_set_ne true hjk]at hun;exact hun
   refine wpOp_mono (fun a' w' h3=>⟨h3.2.1,ih (listed.setIfInBounds j true) a' w' hfree' (hc.set hj) hd' (ready_mono hr (Ne.symm hji)) h3.1 (h3.2.1 hjd hS) ?_⟩) h2
   rw[Array.setIfInBounds_comm _ _ hji]
   exact h3.2.2
theorem Hq{i:Nat}{oi:Oper}{v:Value}(hi:ops[i]?=some oi)(hsel:∀(j:Nat)(o:Oper)cs b,ops[j]?=some o→o.op≠ .select cs b)
 (hQ:∀c a w,Q (.panic c) (a.put oi.dst v) w→Q (.panic c) a w):
 ∀(fuel:Nat)(listed:Array Bool)(a:Act)(w:World),
  (∀j oj,ops[j]?=some oj→j≠i→listed.getD j true=false→(∀e∈oj.after,Region.binds md e=true→e.on≠i)→oi.apart ops oj=true)→
  i∈Region.ready md ops listed→Yields P ops oi v a→
  bJ P md ops Q S ds fuel (listed.setIfInBounds i true) (a.put oi.dst v) w→bJ P md ops Q S ds (fuel+1) listed a w:=by
 intro fuel
 induction fuel with
 |zero=>
  intro listed a w _ hr hy H
  refine⟨fun h=>(by rw[h]at hr;cases hr),fun j hj=>?_⟩
  by_cases hji:j=i
  ·subst hji;exact(hy.yieldsIf (S:=fun _=>True)).wpOp hi trivial ⟨fun _ h=>h,H⟩
  ·have:=ready_mono hj hji
   rw[H.1]at this
   cases this
 |succ fuel ih=>
  intro listed a w hfree hr hy H
  refine⟨fun h=>(by rw[h]at hr;cases hr),fun j hj=>?_⟩
  by_cases hji:j=i
  ·subst hji;exact(hy.yieldsIf (S:=fun _=>True)).wpOp hi trivial ⟨fun _ h=>h,H⟩
  ·have h1:=H.2 j (ready_mono hj hji)
   obtain⟨hjun,oj,hoj,hall⟩:=mem_ready.1 hj
   have hiun:=(mem_ready.1 hr).1
   have hnot:∀e∈oj.after,Region.binds md e=true→e.on≠i:=fun e he hb heq=>by
    have h1:=hall e he hb
    rw[heq]at h1
    rcases Nat.lt_or_ge i listed.size with h'|h'
    ·simp[h']at hiun h1;rw[hiun]at h1;cases h1
    ·simp[Array.getElem?_eq_none h']at h1
   have h2:=wpOp_put hoj (hfree j oj hoj hji hjun hnot) (fun cs b=>hsel i oi cs b hi) (fun cs b=>hsel j oj cs b hoj) hQ hy h1
   have hfree':∀k ok,ops[k]?=some ok→k≠i→(listed.setIfInBounds j true).getD k true=false→
    (∀e∈ok.after,Region.binds md e=true→e.on≠i)→oi.apart ops ok=true:=fun k ok hk hki hun hno=>by
    refine hfree k ok hk hki ?_ hno
    by_cases hjk:j=k
    ·subst hjk;exact hjun
    ·rw[getD_set_ne true hjk]at hun;exact hun
   refine wpOp_mono (fun a' w' h3=>⟨h3.2.1,ih (listed.setIfInBounds j true) a' w' hfree' (ready_mono hr (Ne.symm hji)) h3.1 ?_⟩) h2
   rw[Array.setIfInBounds_comm _ _ hji]
   exact h3.2.2
theorem Fj{i:Nat}{oi:Oper}{v:Value}{fuel:Nat}{listed:Array Bool}{a:Act}{w:World}(hi:ops[i]?=some oi)
 (hs:Region.noSelect ops=true)(hf:Region.free md ops listed i=true)(hr:(Region.ready md ops listed).contains i=true)
 (hc:Region.closedB md ops listed=true)(hl:Region.lastB md ops listed ds i=true)
 (hQ:∀c a w,Q (.panic c) (a.put oi.dst v) w→Q (.panic c) a w)(hy:YieldsIf P ops S oi v a)(hS:S w)
 (h:bJ P md ops Q S ds fuel (listed.setIfInBounds i true) (a.put oi.dst v) w):bJ P md ops Q S ds (fuel+1) listed a w:=
 DU hi (Region.noSelect_spec hs) hQ ops.size fuel listed a w (Region.free_spec hi hf) (Region.closedB_spec hc)
  (fun d hm hun=>by have:=List.all_eq_true.1 hl d hm;rw[hun]at this;simpa using this) (by simpa using hr) hy hS h
theorem Hr{rs:List Nat}{fuel:Nat}{listed:Array Bool}{a:Act}{w:World}(hr:Region.ready md ops listed=rs)(hne:rs≠[])
 (h:∀i∈rs,wpOp P ops Q i (fun a' w'=>(i∉ds→S w→S w')∧bJ P md ops Q S ds fuel (listed.setIfInBounds i true) a' w') a w):bJ P md ops Q S ds (fuel+1) listed a w:=
 ⟨fun h0=>absurd (hr▸h0) hne,hr▸h⟩
theorem Fp{listed:Array Bool}{a:Act}{w:World}(hr:Region.ready md ops listed=[])(h:Q .normal a w):
 ∀fuel,bJ P md ops Q S ds fuel listed a w
 |0=>⟨hr,h⟩
 |_+1=>⟨fun _=>h,by rw[hr];simp⟩
theorem Fq{id:Nat}{a:Act}{w:World}(hm:P.follows .mixedOrders =true)
 (h:bJ P .any ops Q S ds ops.size (Array.replicate ops.size false) a {w with drawn:=w.drawn+1}):(Code.region id ops true).wp P Q a w:=
 wp_region_any hm (yt _ _ _ _ h)
end
section
variable {P:Program} {ops:Array Oper} {Q:Exit→Act→World→Prop} {md:Region.Mode} {S:World→Prop} {ds:List Nat}
def iU(P:Program)(md:Region.Mode)(ops:Array Oper)(Q:Exit→Act→World→Prop)(S:World→Prop)(ds:List Nat)(fuel:Nat)(listed:Array Bool)(a:Act)(w:World)(rs:List Nat):Prop:=
 ∀i∈rs,wpOp P ops Q i (fun a' w'=>(i∉ds→S w→S w')∧bJ P md ops Q S ds fuel (listed.setIfInBounds i true) a' w') a w
theorem iU.nil{fuel:Nat}{listed:Array Bool}{a:Act}{w:World}:iU P md ops Q S ds fuel listed a w []:=fun _ h=>by cases h
theorem iU.cons{fuel:Nat}{listed:Array Bool}{a:Act}{w:World}{i:Nat}{o:Oper}{rs:List Nat}(ho:ops[i]?=some o)(hd:i∉ds)
 (h:∀K':Act→World→Prop,Shut (∀a w,S w→(S w→bJ P md ops Q S ds fuel (listed.setIfInBounds i true) a w)→K' a w)→if Region.wanted o (yielded ops a.tmps)=true then Oper.wp P o a w K' Q else K' (a.put o.dst undef) w)
 (hs:iU P md ops Q S ds fuel listed a w rs):iU P md ops Q S ds fuel listed a w (i::rs):=fun j hj=>by
 rcases List.mem_cons.1 hj with rfl|hj
 ·exact wpOp_step ho (fun K' hK=>h K' (fun a w hS hW=>hK a w ⟨fun _ _=>hS,hW hS⟩))
 ·exact hs j hj
theorem iU.cons_last{fuel:Nat}{listed:Array Bool}{a:Act}{w:World}{i:Nat}{o:Oper}{rs:List Nat}(ho:ops[i]?=some o)(hd:i∈ds)
 (h:∀K':Act→World→Prop,Shut (∀a w,bJ P md ops Q S ds fuel (listed.setIfInBounds i true) a w→K' a w)→if Region.wanted o (yielded ops a.tmps)=true then Oper.wp P o a w K' Q else K' (a.put o.dst undef) w)
 (hs:iU P md ops Q S ds fuel listed a w rs):iU P md ops Q S ds fuel listed a w (i::rs):=fun j hj=>by
 rcases List.mem_cons.1 hj with rfl|hj
 ·exact wpOp_step ho (fun K' hK=>h K' (fun a w hW=>hK a w ⟨fun hn=>absurd hd hn,hW⟩))
 ·exact hs j hj
theorem pW{rs:List Nat}{fuel:Nat}{listed:Array Bool}{a:Act}{w:World}(hr:Region.ready md ops listed=rs)(hne:rs≠[])
 (h:iU P md ops Q S ds fuel listed a w rs):bJ P md ops Q S ds (fuel+1) listed a w:=Hr hr hne h
theorem uG{id n:Nat}{a:Act}{w:World}(l:Array Bool)(hm:P.follows .mixedOrders =true)(hn:ops.size=n)(hl:Array.replicate n false=l)(hS:S w.drew)
 (h:S w.drew→bJ P .any ops Q S ds n l a w.drew):(Code.region id ops true).wp P Q a w:=by
 subst hn
 subst hl
 exact Fq hm (h hS)
def takeB(md:Region.Mode)(ops:Array Oper)(ds:List Nat)(l l':Array Bool)(i:Nat):Bool:=
 Region.noSelect ops&&Region.free md ops l i&&(Region.ready md ops l).contains i&&Region.closedB md ops l&&Region.lastB md ops l ds i&&(l.setIfInBounds i true==l')
theorem take_{i:Nat}{N:Option Tmp}{oi:Oper}{v:Value}{fuel:Nat}{l:Array Bool}{a:Act}{w:World}(l':Array Bool)(hi:ops[i]?=some oi)(hN:oi.dst=N)(hc:takeB md ops ds l l' i=true)
 (hQ:∀c a w,Q (.panic c) (a.put oi.dst v) w→Q (.panic c) a w)(hy:YieldsIf P ops S oi v a)(hS:S w){a':Act}(ha:a.put N v=a')
 (h:bJ P md ops Q S ds fuel l' a' w):bJ P md ops Q S ds (fuel+1) l a w:=by
 subst ha
 subst hN
 simp only[takeB,Bool.and_eq_true,beq_iff_eq]at hc
 obtain⟨⟨⟨⟨⟨h1,h2⟩,h3⟩,h4⟩,h5⟩,h6⟩:=hc
 subst h6
 exact Fj hi h1 h2 h3 h4 h5 hQ hy hS h
def ME(md:Region.Mode)(ops:Array Oper)(l l':Array Bool)(i:Nat):Bool:=
 Region.noSelect ops&&Region.free md ops l i&&(Region.ready md ops l).contains i&&(l.setIfInBounds i true==l')
theorem TA{i:Nat}{N:Option Tmp}{oi:Oper}{v:Value}{fuel:Nat}{l:Array Bool}{a:Act}{w:World}(l':Array Bool)(hi:ops[i]?=some oi)(hN:oi.dst=N)(hc:ME md ops l l' i=true)
 (hQ:∀c a w,Q (.panic c) (a.put oi.dst v) w→Q (.panic c) a w)(hy:Yields P ops oi v a){a':Act}(ha:a.put N v=a')
 (h:bJ P md ops Q S ds fuel l' a' w):bJ P md ops Q S ds (fuel+1) l a w:=by
 subst ha
 subst hN
 simp only[ME,Bool.and_eq_true,beq_iff_eq]at hc
 obtain⟨⟨⟨h1,h2⟩,h3⟩,h6⟩:=hc
 subst h6
 exact Hq hi (Region.noSelect_spec h1) hQ fuel l a w (Region.free_spec hi h2) (by simpa using h3) hy h
def vT(md:Region.Mode)(ops:Array Oper)(l l':Array Bool)(i:Nat):Bool:=(Region.ready md ops l==[i])&&(l.setIfInBounds i true==l')
theorem iN{i:Nat}{N:Option Tmp}{oi:Oper}{fuel:Nat}{l:Array Bool}{a:Act}{w:World}(l':Array Bool)(hi:ops[i]?=some oi)(hN:oi.dst=N)(hc:vT md ops l l' i=true)(hd:i∉ds)
 (h:∀K:Act→World→Prop,Shut (∀a' w',S w'→(S w'→bJ P md ops Q S ds fuel l' a' w')→K a' w')→if Region.wanted oi (yielded ops a.tmps)=true then Oper.wp P oi a w K Q else K (a.put N undef) w):
 bJ P md ops Q S ds (fuel+1) l a w:=by
 subst hN
 simp only[vT,Bool.and_eq_true,beq_iff_eq]at hc
 obtain⟨h1,h2⟩:=hc
 subst h2
 exact pW h1 (by simp) (iU.cons hi hd (fun K hK=>h K hK) iU.nil)
theorem abB{i:Nat}{N:Option Tmp}{oi:Oper}{fuel:Nat}{l:Array Bool}{a:Act}{w:World}(l':Array Bool)(hi:ops[i]?=some oi)(hN:oi.dst=N)(hc:vT md ops l l' i=true)(hd:i∈ds)
 (h:∀K:Act→World→Prop,Shut (∀a' w',bJ P md ops Q S ds fuel l' a' w'→K a' w')→if Region.wanted oi (yielded ops a.tmps)=true then Oper.wp P oi a w K Q else K (a.put N undef) w):
 bJ P md ops Q S ds (fuel+1) l a w:=by
 subst hN
 simp only[vT,Bool.and_eq_true,beq_iff_eq]at hc
 obtain⟨h1,h2⟩:=hc
 subst h2
 exact pW h1 (by simp) (iU.cons_last hi hd (fun K hK=>h K hK) iU.nil)
theorem lq{l:Array Bool}{a:Act}{w:World}{n:Nat}(hr:(Region.ready md ops l==[])=true)(h:Q .normal a w):bJ P md ops Q S ds n l a w:=Fp (by simpa using hr) h n
theorem aea{i j:Nat}{Ni Nj:Option Tmp}{oi oj:Oper}{fuel:Nat}{l:Array Bool}{a:Act}{w:World}(li lj:Array Bool)(hi:ops[i]?=some oi)(hj:ops[j]?=some oj)(hNi:oi.dst=Ni)(hNj:oj.dst=Nj)
 (hc:(Region.ready md ops l==[i,j]&&l.setIfInBounds i true==li&&l.setIfInBounds j true==lj)=true)(hdi:i∉ds)(hdj:j∉ds)
 (h1:∀K:Act→World→Prop,Shut (∀a' w',S w'→(S w'→bJ P md ops Q S ds fuel li a' w')→K a' w')→if Region.wanted oi (yielded ops a.tmps)=true then Oper.wp P oi a w K Q else K (a.put Ni undef) w)
 (h2:∀K:Act→World→Prop,Shut (∀a' w',S w'→(S w'→bJ P md ops Q S ds fuel lj a' w')→K a' w')→if Region.wanted oj (yielded ops a.tmps)=true then Oper.wp P oj a w K Q else K (a.put Nj undef) w):
 bJ P md ops Q S ds (fuel+1) l a w:=by
 subst hNi
 subst hNj
 simp only[Bool.and_eq_true,beq_iff_eq]at hc
 obtain⟨⟨h3,h4⟩,h5⟩:=hc
 subst h4
 subst h5
 exact pW h3 (by simp) (iU.cons hi hdi (fun K hK=>h1 K hK) (iU.cons hj hdj (fun K hK=>h2 K hK) iU.nil))
def sM:Act→List (Tmp×Value)→Act
 |a,[]=>a
 |a,(n,v)::r=>sM (a.put (some n) v) r
theorem abC{σ:Type}{fuel:Nat}{l:Array Bool}{a:Act}{w:World}(fuel':Nat)(l':Array Bool)(ns:σ→List (Tmp×Value))(F:σ→World→Prop)
 (hcont:∀s w',F s w'→bJ P md ops Q S ds fuel' l' (sM a (ns s)) w')
 (h:(∀s w',F s w'→bJ P md ops Q S ds fuel' l' (sM a (ns s)) w')→bJ P md ops Q S ds fuel l a w):bJ P md ops Q S ds fuel l a w:=h hcont
theorem Db{fuel:Nat}{l:Array Bool}{a a':Act}{w:World}(ha:a=a')(h:bJ P md ops Q S ds fuel l a' w):bJ P md ops Q S ds fuel l a w:=by
 subst ha
 exact h
theorem call_{oi:Oper}{N:Option Tmp}{a:Act}{w:World}{K:Act→World→Prop}(f:FuncId)(args:Array Value)(hw:Region.wanted oi (yielded ops a.tmps)=true)(hN:oi.dst=N)(hrun:(execOp a.eval oi).run P w= .ok (.enter f args) w)
 (h:Calls P f args w fun e w'=>∃v,e= .returned v∧K (a.put N v) w'):if Region.wanted oi (yielded ops a.tmps)=true then Oper.wp P oi a w K Q else K (a.put N undef) w:=by
 rw[if_pos hw]
 subst hN
 unfold Oper.wp
 rw[hrun,Oper.upon_enter]
 refine h.mono fun e w'' hh=>?_
 obtain⟨v,rfl,hk⟩:=hh
 exact hk
theorem TB{f:FuncId}{fn:Func}(hf:P.funcs[f]?=some fn)(hname:(fn.name== "runtime.NumGoroutine")=false)(hb:fn.body.isSome=true)(args:Array Value)(w:World):(callFunc f args).run P w= .ok (.enter f args) w:=by
 have h1:fn.name≠ "runtime.NumGoroutine" :=by simpa using hname
 obtain⟨c,hc⟩:=Option.isSome_iff_exists.1 hb
 simp[callFunc,hf,h1,hc]
theorem akn{oi:Oper}{N:Option Tmp}{a:Act}{w:World}{K:Act→World→Prop}{f:FuncId}{fn:Func}{aUM:Array Operand}{ts:Array TypeId}(hf:P.funcs[f]?=some fn)(hname:(fn.name== "runtime.NumGoroutine")=false)(hb:fn.body.isSome=true)(args:Array Value)
 (hw:Region.wanted oi (yielded ops a.tmps)=true)(hN:oi.dst=N)(hop:oi.op= .call {callee:=.value (.func f),args:=aUM,argTypes:=ts})(hargs:aUM.map a.eval=args)
 (h:Calls P f args w fun e w'=>∃v,e= .returned v∧K (a.put N v) w'):if Region.wanted oi (yielded ops a.tmps)=true then Oper.wp P oi a w K Q else K (a.put N undef) w:=by
 refine call_ f args hw hN ?_ h
 have he:=TB hf hname hb args w
 unfold execOp
 simp[hop,resolve,Deferred.ofValue,invoke,Act.eval,hargs,he]
theorem QE{rest:List Oper}{oi:Oper}{a:Act}{w:World}(N:Option Tmp)(hd:oi.dst=N)(hg:oi.guard=none){f:FuncId}{fn:Func}{aUM:Array Operand}{ts:Array TypeId}(hf:P.funcs[f]?=some fn)(hname:(fn.name== "runtime.NumGoroutine")=false)(hb:fn.body.isSome=true)(args:Array Value)
 (hop:oi.op= .call {callee:=.value (.func f),args:=aUM,argTypes:=ts})(hargs:aUM.map a.eval=args)
 (h:Calls P f args w fun e w'=>∃v,e= .returned v∧wpList P ops Q rest (a.put N v) w'):wpList P ops Q (oi::rest) a w:=by
 refine wpList_plain hg fun K hK=>?_
 have he:=TB hf hname hb args w
 have hrun:(execOp a.eval oi).run P w= .ok (.enter f args) w:=by
  unfold execOp
  simp[hop,resolve,Deferred.ofValue,invoke,Act.eval,hargs,he]
 unfold Oper.wp
 rw[hrun,Oper.upon_enter]
 refine h.mono fun e w'' hh=>?_
 obtain⟨v,rfl,hk⟩:=hh
 subst hd
 exact hK _ _ hk
theorem QF{oi:Oper}{N:Option Tmp}{a:Act}{w w1:World}{v:Value}{K:Act→World→Prop}(hw:Region.wanted oi (yielded ops a.tmps)=true)(hN:oi.dst=N)(hrun:(execOp a.eval oi).run P w= .ok (.value v) w1)
 (h:K (a.put N v) w1):if Region.wanted oi (yielded ops a.tmps)=true then Oper.wp P oi a w K Q else K (a.put N undef) w:=by
 rw[if_pos hw]
 subst hN
 unfold Oper.wp
 rw[hrun]
 exact h
theorem oF{oi:Oper}{a:Act}{w w1:World}{K:Act→World→Prop}(hw:Region.wanted oi (yielded ops a.tmps)=true)(hN:oi.dst=none)(hrun:(execOp a.eval oi).run P w= .ok .skip w1)
 (h:K a w1):if Region.wanted oi (yielded ops a.tmps)=true then Oper.wp P oi a w K Q else K (a.put none undef) w:=by
 rw[if_pos hw]
 unfold Oper.wp
 rw[hrun]
 show K (a.put oi.dst undef) w1
 rw[hN]
 exact h
theorem gI(n:Int):IntKind.i64.wrap n=Go.RowKit.wrap64 n:=by unfold Go.RowKit.wrap64;exact IntKind.wrap_i64 n
theorem iB(n:Int):IntKind.i32.wrap n=Go.RowKit.wrap32 n:=by unfold Go.RowKit.wrap32;exact IntKind.wrap_i32 n
end
end Go.Proofs.YtokblgdgpnakpaaGreatW.PrintLast
namespace Go.Proofs.YtokblgdgpnakpaaGreatW.PrintWords
open Go.ChangeShapes Go.WideShapes
theorem sized_ints{H:Type}{enc:TypeId×Value→H}{P:Program}{W:World}{base:Nat}{spare:Nat→Bool}{held:Bool}{t e:TypeId}{k:IntKind}{a:Option Addr}{len cap:Nat}{d:DataW H}{ps:List MemPlace}{ts:List TypeId}{ds:List (DataW H)}{j:Nat}
 (hsz:(DataW.weightsEach P ts ds).all (· ≤reachBytes)=true)(ht:ts[j]?=some t)(hd:ds[j]?=some d)(hu:P.underlying t=some (.slice e))(he:P.underlying e=some (.int k))(hc:P.cellsOf e=1){B:Nat}(hB:P.bytesOf e=B)
 (h:DataW.Trod enc P W base spare held t (.slice a len cap) d ps):len*B≤140737488351232:=by
 obtain⟨fuel,hf⟩:=h
 rcases open_ints hu he hc hf with⟨hcs,_⟩|⟨x,l,c,zs,hcs,_,hl,_,hz,hx,_,_⟩
 ·simp[Value.cells]at hcs
  obtain⟨rfl,rfl,rfl⟩:=hcs
  simp
 ·simp[Value.cells]at hcs
  obtain⟨rfl,rfl,rfl⟩:=hcs
  obtain⟨hx,_⟩:=Prod.mk.inj hx
  subst hx
  have z:=sized_slice hsz ht hd hu
  rw[hB]at z
  have hl2:len≤zs.length:=by
   rw[hz]
   split
   ·exact hl
   ·exact Nat.le_refl _
  have h1:(lits (H:=H) k (zs.take len)).length+(lits (H:=H) k (zs.drop len)).length=zs.length:=by
   simp[lits]
   omega
  rw[h1]at z
  exact Nat.le_trans (Nat.mul_le_mul_right _ hl2) z
end Go.Proofs.YtokblgdgpnakpaaGreatW.PrintWords
namespace Go.Proofs.YtokblgdgpnakpaaGreatW.PrintWords
open Go.RowKit
structure ah(p:Prop):Prop where mk::(out:p)
structure aT(w w':World):Prop where mk::(out:∃n,w'=w.drewN n)
theorem aT.refl(w:World):aT w w:=⟨⟨0,rfl⟩⟩
theorem aT.step{w w':World}(h:aT w w')(n:Nat):aT w (w'.drewN n):=by
 obtain⟨m,rfl⟩:=h
 exact⟨⟨m+n,World.drewN_drewN ..⟩⟩
theorem aT.grown{w w':World}(h:aT w w'):Grown w w':=by
 obtain⟨n,rfl⟩:=h
 induction n with
 |zero=>exact Grown.refl _
 |succ n ih=>rw[←World.drew_drewN];exact Grown.drew ih
theorem aT.below{w w':World}(h:aT w w'):Below w.heap.size w w':=by
 obtain⟨n,rfl⟩:=h
 induction n with
 |zero=>exact Below.refl _ _
 |succ n ih=>rw[←World.drew_drewN];exact ih.drew
def rd(xs:List Int)(i:Int):Int:=xs.getD i.toNat 0
def bt(s:ByteArray)(i:Int):Int:=if h:i.toNat<s.size then((s[i.toNat]'h).toNat:Int)else 0
theorem fF(s:ByteArray)(i:Int):∀h:i.toNat<s.size,((s[i.toNat]'h).toNat:Int)=bt s i:=fun h=>by simp[bt,h]
theorem YC(s:ByteArray)(i:Int):0≤bt s i∧bt s i≤255:=by
 unfold bt
 split
 ·rename_i h
  have:=(s[i.toNat]'h).toNat_lt
  omega
 ·omega
def nums(k:IntKind)(xs:List Int):List Value:=xs.map fun x=>.int k x
theorem eY{w W:World}(h:Below w.heap.size w W)(o:Obj):Below w.heap.size w (W.alloc o):=h.alloc h.size o
theorem qF{B:Nat}{w W:World}(h:Below B w W):Below B w W.drew:=⟨h.os,h.tape,h.output,h.size,h.block⟩
theorem dY{B:Nat}{w W:World}(h:Below B w W)(n:Nat):Below B w (W.drewN n):=⟨h.os,h.tape,h.output,h.size,h.block⟩
theorem QG{B:Nat}{w w1 w2:World}(h:Below B w w1)(hB:B≤w1.heap.size)(k:Below w1.heap.size w1 w2):Below B w w2:=
 h.trans ⟨k.os,k.tape,k.output,k.size,fun i hi=>k.block i (Nat.lt_of_lt_of_le hi hB)⟩
theorem vU{w w1:World}(h:Below w.heap.size w w1)(row:Option Nat):w.grownBy w1 row:=⟨h.os,h.tape,h.output,h.size,fun i hi _=>h.block i hi⟩
theorem jZ{w w1:World}(h:Below w.heap.size w w1){a:Addr}{v:Value}(hc:w.cell? a=some v):w1.cell? a=some v:=(h.cell (World.block_lt_of_cell? w a hc)).trans hc
theorem add_plain(g j:Nat):(⟨g,0,none⟩:Addr).add j=⟨g,j,none⟩:=by unfold Addr.add;split<;>simp_all
def gK(w:World)(k:IntKind)(A:Option Addr)(n:Nat)(xs:List Int):Prop:=
 xs.length=n∧n≤9223372036854775807∧(0<n→∃ad,A=some ad∧∀j,j<n→w.cell? (ad.add j)=some (.int k (xs.getD j 0)))
theorem gK.at_{w:World}{k:IntKind}{A:Option Addr}{n:Nat}{xs:List Int}(h:gK w k A n xs)(i:Int)(h0:0≤i)(h1:i<n):∃ad,A=some ad∧w.cell? (ad.add i.toNat)=some (.int k (rd xs i)):=by
 obtain⟨ad,e,hc⟩:=h.2.2 (by omega)
 exact⟨ad,e,hc _ (by omega)⟩
theorem gK.below{w w1:World}{k:IntKind}{A:Option Addr}{n:Nat}{xs:List Int}(h:gK w k A n xs)(hb:Below w.heap.size w w1):gK w1 k A n xs:=
 ⟨h.1,h.2.1,fun hn=>by
  obtain⟨ad,e,hc⟩:=h.2.2 hn
  exact⟨ad,e,fun j hj=>jZ hb (hc j hj)⟩⟩
theorem a4c(W:World)(base:Nat)(e:TypeId)(size:Nat):W.ownsRow base e size (.slice none 0 0) 0 []:=⟨by simp,.inl ⟨rfl,rfl⟩⟩
theorem tH{w:World}{base:Nat}{e:TypeId}{size n:Nat}{v:Value}{xs:List Value}(h:w.ownsRow base e size v n xs)(k:Nat)(hk:v.ownBlock=some k):base≤k:=by
 rcases h.2 with⟨rfl,_⟩|⟨g,cap,cur,rfl,hb,_⟩
 ·simp[Value.ownBlock]at hk
 ·have:g=k:=by simpa [Value.ownBlock]using hk
  omega
theorem YD{w:World}{base:Nat}{e:TypeId}{size n:Nat}{v:Value}{xs:List Value}(h:w.ownsRow base e size v n xs)(k:Nat)(hk:v.ownBlock=some k):k<w.heap.size:=by
 rcases h.2 with⟨rfl,_⟩|⟨g,cap,cur,rfl,hb,hh,_⟩
 ·simp[Value.ownBlock]at hk
 ·have:g=k:=by simpa [Value.ownBlock]using hk
  subst this
  exact(Array.getElem?_eq_some_iff.1 hh).1
theorem JA{w w1:World}{base:Nat}{e:TypeId}{size n:Nat}{v:Value}{xs:List Value}(h:w.ownsRow base e size v n xs)(hb:Below w.heap.size w w1):w1.ownsRow base e size v n xs:=
 h.kept (vU hb none) (by cases v.ownBlock<;>simp)
theorem Xd{w:World}{base n:Nat}{e:TypeId}{size:Nat}{v:Value}{xs:List Value}(h:w.ownsRow base e size v n xs):∃A c,v= .slice A n c:=by
 rcases h.2 with⟨rfl,rfl⟩|⟨g,cap,cur,rfl,_⟩
 ·exact⟨none,0,rfl⟩
 ·exact⟨_,cap,rfl⟩
theorem lW{P:Program}{w:World}{base n:Nat}{e' src dst e:TypeId}{v:Value}{xs:List Int}(hs:P.underlying src=some (.slice e))(he:P.underlying e=some (.int .u8))(hd:P.underlying dst=some .string)
 (h:w.ownsRow base e' 1 v n (nums .u8 xs)):(convert src dst v).run P w= .ok (.string (strOfNums xs)) w:=by
 have hl:xs.length=n:=by have:=h.1;simp[nums]at this;exact this
 rcases h.2 with⟨rfl,rfl⟩|⟨g,cap,cur,rfl,_⟩
 ·obtain rfl:xs=[]:=List.eq_nil_of_length_eq_zero hl
  exact run_convert_bytes_nil w src e hs he 0 0 dst hd
 ·refine run_convert_bytes_arg w src e hs he g 0 n cap xs hl (fun i hi=>?_) dst hd
  have hc:=h.cells (g:=g) rfl i (.int .u8 (xs.getD i 0)) (by simp[nums,List.getElem?_eq_getElem (show i<xs.length by omega),List.getD_eq_getElem?_getD])
  have ha:(⟨g,0,none⟩:Addr).add i=⟨g,0+i,none⟩:=by unfold Addr.add;split<;>simp_all
  rwa[ha]at hc
section
variable {P:Program} {ops:Array Oper} {rest:List Oper} {o:Oper} {a:Act} {Q:Exit→Act→World→Prop}
end
def bytesOf(s:ByteArray):List Int:=s.data.toList.map fun b=>(b.toNat:Int)
theorem vV(s:ByteArray):s.data.toList.length=s.size:=by rw[Array.length_toList];rfl
theorem bytesOf_length(s:ByteArray):(bytesOf s).length=s.size:=by rw[bytesOf,List.length_map,vV]
theorem QH(s:ByteArray)(i:Int):rd (bytesOf s) i=bt s i:=by
 unfold rd bt bytesOf
 split
 ·rename_i h
  have h':i.toNat<s.data.toList.length:=by rw[vV];exact h
  simp[List.getD_eq_getElem?_getD,List.getElem?_eq_getElem h']
  rfl
 ·rename_i h
  have h':s.data.toList.length≤i.toNat:=by rw[vV];omega
  simp[List.getD_eq_getElem?_getD,List.getElem?_eq_none h']
theorem gK.take_{w:World}{k:IntKind}{A:Option Addr}{n:Nat}{xs:List Int}(h:gK w k A n xs)(i:Nat)(hi:i≤n):gK w k A i (xs.take i):=by
 refine⟨by rw[List.length_take,h.1];omega,by have:=h.2.1;omega,fun hp=>?_⟩
 obtain⟨ad,e,hc⟩:=h.2.2 (by omega)
 refine⟨ad,e,fun j hj=>?_⟩
 rw[hc j (by omega)]
 simp[List.getD_eq_getElem?_getD,hj]
def gM{α:Type}(a b:Option α):Prop:=∀r,a=some r→b=some r
theorem gM.refl{α:Type}(a:Option α):gM a a:=fun _ h=>h
theorem gM.none{α:Type}(b:Option α):gM Option.none b:=fun _ h=>by cases h
theorem gM.trans{α:Type}{a b c:Option α}(h:gM a b)(k:gM b c):gM a c:=fun r hr=>k r (h r hr)
theorem gM.ite{α:Type}{c:Prop}[Decidable c]{a a' b b':Option α}(h:gM a a')(k:gM b b'):gM (if c then a else b) (if c then a' else b'):=by
 split
 ·exact h
 ·exact k
theorem gM.bind{α β:Type}{a a':Option α}{f f':α→Option β}(h:gM a a')(k:∀x,gM (f x) (f' x)):gM (a.bind f) (a'.bind f'):=by
 intro r hr
 obtain⟨x,hx,hf⟩:=Option.bind_eq_some_iff.1 hr
 exact Option.bind_eq_some_iff.2 ⟨x,h x hx,k x r hf⟩
theorem gM.map{α β:Type}{a a':Option α}(f:α→β)(h:gM a a'):gM (a.map f) (a'.map f):=by
 intro r hr
 obtain⟨x,hx,hf⟩:=Option.map_eq_some_iff.1 hr
 exact Option.map_eq_some_iff.2 ⟨x,h x hx,hf⟩
theorem Dc{α:Type}{g:Nat→Option α}(h:∀k,gM (g k) (g (k+1)))(k:Nat):∀j,gM (g k) (g (k+j))
 |0=>gM.refl _
 |j+1=>(Dc h k j).trans (h (k+j))
theorem Xe{α:Type}{g:Nat→Option α}(h:∀k,gM (g k) (g (k+1))){k k':Nat}(hk:k≤k'){r:α}(hr:g k=some r):g k'=some r:=by
 have:=Dc h k (k'-k) r hr
 rwa[Nat.add_sub_cancel' hk]at this
def dm{α:Type}(R:α→List Value→Prop)(size:Nat)(ps:List α)(cs:List Value):Prop:=
 cs.length=ps.length*size∧∀j p,ps[j]?=some p→R p ((cs.drop (j*size)).take size)
theorem dm.none{α:Type}(R:α→List Value→Prop)(size:Nat):dm R size [] []:=⟨by simp,fun j p h=>by simp at h⟩
theorem dm.snoc{α:Type}{R:α→List Value→Prop}{size:Nat}{ps:List α}{cs c:List Value}{p:α}(h:dm R size ps cs)(hp:R p c)(hc:c.length=size):dm R size (ps++[p]) (cs++c):=by
 refine⟨by rw[List.length_append,h.1,hc,List.length_append,List.length_singleton,Nat.add_mul,Nat.one_mul],fun j q hq=>?_⟩
 rcases Nat.lt_or_ge j ps.length with hj|hj
 ·rw[List.getElem?_append_left hj]at hq
  have h1:j*size+size≤cs.length:=by rw[h.1,←Nat.succ_mul];exact Nat.mul_le_mul_right _ hj
  have h2:=h.2 j q hq
  rw[List.drop_append_of_le_length (by omega),List.take_append_of_le_length (by rw[List.length_drop];omega)]
  exact h2
 ·have hj':j=ps.length:=by
   have:=(List.getElem?_eq_some_iff.1 hq).1
   rw[List.length_append,List.length_singleton]at this
   omega
  subst hj'
  have hq':p=q:=by simpa using hq
  subst hq'
  rw[←h.1,List.drop_left,←hc,List.take_length]
  exact hp
theorem dm.imp_{α:Type}{R R':α→List Value→Prop}{size:Nat}{ps:List α}{cs:List Value}(h:dm R size ps cs)(hR:∀p c,R p c→R' p c):dm R' size ps cs:=⟨h.1,fun j p hj=>hR _ _ (h.2 j p hj)⟩
def jH{α:Type}(R:α→List Value→Prop)(size:Nat)(w:World)(A:Option Addr)(n:Nat)(ps:List α):Prop:=
 ps.length=n∧n≤9223372036854775807∧(0<n→∃ad,A=some ad∧∀j p,ps[j]?=some p→∃c,c.length=size∧R p c∧∀i u,c[i]?=some u→w.cell? (ad.add (j*size+i))=some u)
theorem jH.get_{α:Type}{R:α→List Value→Prop}{size:Nat}{w:World}{A:Option Addr}{n:Nat}{ps:List α}(h:jH R size w A n ps)(d:α)(i:Int)(h0:0≤i)(h1:i<n):
 ∃ad c,A=some ad∧c.length=size∧R (ps.getD i.toNat d) c∧∀j u,c[j]?=some u→w.cell? (ad.add (i.toNat*size+j))=some u:=by
 obtain⟨ad,e,hc⟩:=h.2.2 (by omega)
 have hl:i.toNat<ps.length:=by have:=h.1;omega
 obtain⟨c,hs,hr,hcell⟩:=hc i.toNat _ (List.getElem?_eq_getElem hl)
 refine⟨ad,c,e,hs,?_,hcell⟩
 rw[List.getD_eq_getElem?_getD,List.getElem?_eq_getElem hl]
 exact hr
theorem jH.imp_{α:Type}{R R':α→List Value→Prop}{size:Nat}{w w1:World}{A:Option Addr}{n:Nat}{ps:List α}(h:jH R size w A n ps)(hb:Below w.heap.size w w1)(hR:∀p c,R p c→R' p c):jH R' size w1 A n ps:=
 ⟨h.1,h.2.1,fun hn=>by
  obtain⟨ad,e,hc⟩:=h.2.2 hn
  refine⟨ad,e,fun j p hj=>?_⟩
  obtain⟨c,hs,hr,hcell⟩:=hc j p hj
  exact⟨c,hs,hR _ _ hr,fun i u hu=>jZ hb (hcell i u hu)⟩⟩
theorem Ht{α:Type}{R:α→List Value→Prop}{w:World}{base n size:Nat}{e:TypeId}{v:Value}{ps:List α}{cs:List Value}(h:w.ownsRow base e size v n cs)(hR:dm R size ps cs)(hn:ps.length=n):
 ∃A c,v= .slice A n c∧jH R size w A n ps:=by
 rcases Nat.eq_zero_or_pos n with h0|h0
 ·rcases h.2 with⟨rfl,rfl⟩|⟨g,cap,cur,rfl,_⟩
  ·exact⟨none,0,rfl,hn,by omega,fun hp=>absurd hp (by omega)⟩
  ·exact⟨_,cap,rfl,hn,by omega,fun hp=>absurd hp (by omega)⟩
 ·obtain⟨g,cap,rfl,_,_⟩:=h.form h0
  have hm:n≤9223372036854775807:=by
   rcases h.2 with⟨_,h1⟩|⟨g',cap',cur,he,_,_,h1,h2,_⟩
   ·omega
   ·simp only[maxLen]at h2
    omega
  refine⟨_,cap,rfl,hn,hm,fun _=>⟨_,rfl,fun j p hj=>⟨(cs.drop (j*size)).take size,?_,hR.2 j p hj,fun i u hu=>?_⟩⟩⟩
  ·have hjl:=(List.getElem?_eq_some_iff.1 hj).1
   have h1:j*size+size≤cs.length:=by rw[hR.1,←Nat.succ_mul];exact Nat.mul_le_mul_right _ hjl
   rw[List.length_take,List.length_drop]
   omega
  ·refine h.cells (g:=g) rfl _ u ?_
   rw[List.getElem?_take]at hu
   split at hu
   ·rw[List.getElem?_drop]at hu
    exact hu
   ·cases hu
theorem iV(ad:Addr)(m j:Nat)(hj:0<j):ad.add (m+j)=⟨(ad.add m).block,(ad.add m).off+j,none⟩:=by
 unfold Addr.add
 by_cases hm:m=0
 ·subst hm
  simp[Nat.ne_of_gt hj]
 ·simp[hm,Nat.add_assoc]
section
variable {P:Program} {ops:Array Oper} {rest:List Oper} {o:Oper} {a:Act} {Q:Exit→Act→World→Prop}
theorem qG{w0 W:World}(base:Nat)(hgd:o.guard=none)(s x:Operand)(t e:TypeId)(z:Value)(size bytes:Nat)
 (ho:o.op= .call {callee:=.builtin .append,args:=#[s,x],argTypes:=#[t,t]})
 (ht:P.underlying t=some (.slice e))(hinfo:(P.info? e).map (fun i=>(i.zero,i.size,i.bytes))=some (some z,size,bytes))(hz:z.cells.size=size)(hs0:0<size)(hb0:0<bytes)
 (v:Value)(n:Nat)(xs ys:List Value)(hs:a.eval s=v)(hx:a.eval x= .slice (some ⟨W.heap.size,0,none⟩) 1 1)(hys:ys.length=size)(h1:∀u∈ys,u.oneCell'=true)
 (HO:W.ownsRow base e size v n xs)(HB:Below base w0 W)(hbase:base≤W.heap.size)(hl:(n+1)*bytes≤140737488355328)
 (h:∀v1 w1,w1.ownsRow base e size v1 (n+1) (xs++ys)→Below base w0 w1→W.grownBy w1 v.ownBlock→(v1.ownBlock=v.ownBlock∨∃b,v1.ownBlock=some b∧W.heap.size≤b)→wpList P ops Q rest (a.put o.dst v1) w1):
 wpList P ops Q (o::rest) a (W.alloc (.cells ys.toArray e)):=by
 obtain⟨i0,hi,hzz⟩:=Option.map_eq_some_iff.1 hinfo
 simp only[Prod.mk.injEq]at hzz
 obtain⟨hz0,hz1,hz2⟩:=hzz
 have hlen:n+1≤140737488355328:=Nat.le_trans (Nat.le_mul_of_pos_right _ hb0) hl
 refine wpList_append_own_at (W.alloc (.cells ys.toArray e)) hgd s x t ho base e i0 z size bytes ht hi hz0 hz1 hz2 hz hs0 v n xs hs (HO.alloc _) ⟨W.heap.size,0,none⟩ 1 1 ys hx (by rw[hys];simp)
  (by simpa using World.news_of_block (cs:=ys.toArray) (t:=e) (fr:=(0,0)) (heap_alloc_new W (.cells ys.toArray e))) h1 (by simp only[maxLen];omega) hl (by simp;omega) ?_
 intro v1 w1 hown hg _ hat
 refine h v1 w1 hown ((HB.alloc hbase _).grown hg (by simp;omega) (tH HO)) (World.grownBy.trans (World.grownBy_alloc W _ _) hg) ?_
 rcases hat with hat|hat
 ·exact .inl hat
 ·exact .inr ⟨_,hat,by simp⟩
end
theorem own_ne{w:World}{base:Nat}{e t:TypeId}{size n g:Nat}{v:Value}{xs:List Value}{cs:Array Value}(h:w.ownsRow base e size v n xs)(hg:w.heap[g]?=some (.cells cs t (0,0)))(hne:e≠t):some g≠v.ownBlock:=by
 rcases h.2 with⟨rfl,_⟩|⟨g',cap,cur,rfl,_,hh,_⟩
 ·simp[Value.ownBlock]
 ·intro he
  have:g=g':=by simpa [Value.ownBlock]using he
  subst this
  rw[hg]at hh
  injection hh with hh
  injection hh with _ ht
  exact hne ht.symm
theorem MF{w:World}{base:Nat}{e:TypeId}{size n:Nat}{v:Value}{xs:List Value}(h:w.ownsRow base e size v n xs){p:Addr}(hne:some p.block≠v.ownBlock)(u:Value):(w.setCell p u).ownsRow base e size v n xs:=by
 obtain⟨h1,h2⟩:=h
 refine⟨h1,?_⟩
 rcases h2 with h2|⟨g,cap,cur,rfl,hg,hh,r⟩
 ·exact .inl h2
 ·exact .inr ⟨g,cap,cur,rfl,hg,by rw[Below.heap_setCell _ _ _ _ (fun e=>hne (by rw[e];rfl))];exact hh,r⟩
theorem TF{w:World}{g:Nat}{t:TypeId}{cs:Array Value}(h:w.heap[g]?=some (.cells cs t (0,0)))(i:Nat)(u:Value):(w.setCell ⟨g,i,none⟩ u).heap[g]?=some (.cells (cs.setIfInBounds i u) t (0,0)):=by
 simp[World.setCell,Array.getElem?_modify,h]
theorem TG{w:World}{g:Nat}{t:TypeId}{cs:Array Value}(h:w.heap[g]?=some (.cells cs t (0,0))){p:Addr}(hp:g≠p.block)(u:Value):(w.setCell p u).heap[g]?=some (.cells cs t (0,0)):=(Below.heap_setCell w p u g hp).trans h
theorem gJ{w:World}{g:Nat}{o:Obj}(h:w.heap[g]?=some o):g<w.heap.size:=(Array.getElem?_eq_some_iff.1 h).1
theorem ak{w:World}{g:Nat}{t:TypeId}{cs:Array Value}(h:w.heap[g]?=some (.cells cs t (0,0)))(i:Nat):w.cell? ⟨g,i,none⟩=cs[i]?:=cell_of_row w g i cs t (0,0) h
theorem aj{w:World}{g:Nat}{t:TypeId}{cs:Array Value}(h:w.heap[g]?=some (.cells cs t (0,0)))(i:Nat):w.frozen? ⟨g,i,none⟩=false:=by simp[World.frozen?,h]
theorem jL{w w1:World}{g:Nat}{o:Obj}{row:Option Nat}(h:w.heap[g]?=some o)(hg:w.grownBy w1 row)(hne:some g≠row):w1.heap[g]?=some o:=(hg.block g (gJ h) hne).trans h
def ax(w w':World)(g:Nat)(row:Option Nat):Prop:=w.heap.size≤w'.heap.size∧∀i,i<w.heap.size→i≠g→some i≠row→w'.heap[i]?=w.heap[i]?
theorem ax.refl(w:World)(g:Nat)(row:Option Nat):ax w w g row:=⟨Nat.le_refl _,fun _ _ _ _=>rfl⟩
theorem ax.of_grown{w w1:World}{row:Option Nat}(h:w.grownBy w1 row)(g:Nat):ax w w1 g row:=⟨h.size,fun i hi _ hr=>h.block i hi hr⟩
theorem ax.of_below{w w1:World}(h:Below w.heap.size w w1)(g:Nat)(row:Option Nat):ax w w1 g row:=⟨h.size,fun i hi _ _=>h.block i hi⟩
theorem ax.set_{w w1:World}{g:Nat}{row:Option Nat}(h:ax w w1 g row)(j:Nat)(u:Value):ax w (w1.setCell ⟨g,j,none⟩ u) g row:=
 ⟨by simpa [World.setCell]using h.1,fun i hi hg hr=>(Below.heap_setCell w1 ⟨g,j,none⟩ u i hg).trans (h.2 i hi hg hr)⟩
theorem ax.trans{w w1 w2:World}{g:Nat}{row aeb:Option Nat}(h:ax w w1 g row)(k:ax w1 w2 g aeb)(hr:aeb=row∨∃b,aeb=some b∧w.heap.size≤b):ax w w2 g row:=
 ⟨Nat.le_trans h.1 k.1,fun i hi hg hn=>by
  refine(k.2 i (Nat.lt_of_lt_of_le hi h.1) hg ?_).trans (h.2 i hi hg hn)
  rcases hr with rfl|⟨b,rfl,hb⟩
  ·exact hn
  ·intro e
   injection e with e
   omega⟩
theorem ax.blk{w w1:World}{g g':Nat}{row:Option Nat}{o:Obj}(h:ax w w1 g row)(hb:w.heap[g']?=some o)(hg:g'≠g)(hr:some g'≠row):w1.heap[g']?=some o:=(h.2 g' (gJ hb) hg hr).trans hb
theorem ax.own{w w1:World}{g:Nat}{row:Option Nat}{base:Nat}{e:TypeId}{size n:Nat}{v:Value}{xs:List Value}(h:ax w w1 g row)(ho:w.ownsRow base e size v n xs)(hg:v.ownBlock≠some g)(hr:v.ownBlock=none∨v.ownBlock≠row):w1.ownsRow base e size v n xs:=by
 obtain⟨h1,h2⟩:=ho
 refine⟨h1,?_⟩
 rcases h2 with h2|⟨b,cap,cur,rfl,hb,hh,r⟩
 ·exact .inl h2
 ·refine .inr ⟨b,cap,cur,rfl,hb,h.blk hh ?_ ?_,r⟩
  ·intro e
   exact hg (by rw[←e];rfl)
  ·rcases hr with hr|hr
   ·simp[Value.ownBlock]at hr
   ·exact hr
def Ev{α:Type}(g:Nat→Option α)(r:α):Prop:=∃K,∀k,K≤k→g k=some r
theorem Ev.of{α:Type}{g:Nat→Option α}{r:α}(hg:∀k,gM (g k) (g (k+1))){k:Nat}(h:g k=some r):Ev g r:=⟨k,fun _ hk=>Xe hg hk h⟩
theorem Ev.now{α:Type}(r:α):Ev (fun _=>some r) r:=⟨0,fun _ _=>rfl⟩
theorem Ev.bind{α β:Type}{g:Nat→Option α}{f:Nat→α→Option β}{a:α}{r:β}(h:Ev g a)(k:Ev (fun n=>f n a) r):Ev (fun n=>(g n).bind (f n)) r:=by
 obtain⟨K,h⟩:=h
 obtain⟨K',k⟩:=k
 refine⟨max K K',fun n hn=>?_⟩
 have h1:=h n (by omega)
 have h2:=k n (by omega)
 simp only[h1,Option.bind_some]
 exact h2
theorem Ev.step{α:Type}{g f:Nat→Option α}{r:α}(h:∀k,g (k+1)=f k)(k:Ev f r):Ev g r:=by
 obtain⟨K,k⟩:=k
 refine⟨K+1,fun n hn=>?_⟩
 obtain⟨m,rfl⟩:∃m,n=m+1:=⟨n-1,by omega⟩
 rw[h]
 exact k m (by omega)
theorem Ev.congr{α:Type}{g f:Nat→Option α}{r:α}(h:∀k,g k=f k)(k:Ev f r):Ev g r:=by
 obtain⟨K,k⟩:=k
 exact⟨K,fun n hn=>(h n).trans (k n hn)⟩
theorem QI{w:World}{base base':Nat}{e:TypeId}{size n:Nat}{v:Value}{xs:List Value}(h:w.ownsRow base e size v n xs)(hb:base'≤base):w.ownsRow base' e size v n xs:=by
 obtain⟨h1,h2⟩:=h
 refine⟨h1,?_⟩
 rcases h2 with h2|⟨g,cap,cur,rfl,hg,r⟩
 ·exact .inl h2
 ·exact .inr ⟨g,cap,cur,rfl,Nat.le_trans hb hg,r⟩
section
variable {α:Type} {enc:α→Value} {d:α}
def encs(enc:α→Value)(xs:List α):List Value:=xs.map enc
def MG(d:α)(xs:List α)(i:Int):α:=xs.getD i.toNat d
theorem Df(xs:List α):(encs enc xs).length=xs.length:=by simp[encs]
theorem YE(xs:List α)(j:Nat)(h:j<xs.length):(encs enc xs)[j]?=some (enc (xs.getD j d)):=by
 simp[encs,List.getElem?_eq_getElem h,List.getD_eq_getElem?_getD]
def ja(enc:α→Value)(d:α)(w:World)(A:Option Addr)(n:Nat)(xs:List α):Prop:=
 xs.length=n∧n≤9223372036854775807∧(0<n→∃ad,A=some ad∧∀j,j<n→w.cell? (ad.add j)=some (enc (xs.getD j d)))
theorem ja.at_{w:World}{A:Option Addr}{n:Nat}{xs:List α}(h:ja enc d w A n xs)(i:Int)(h0:0≤i)(h1:i<n):∃ad,A=some ad∧w.cell? (ad.add i.toNat)=some (enc (MG d xs i)):=by
 obtain⟨ad,e,hc⟩:=h.2.2 (by omega)
 exact⟨ad,e,hc _ (by omega)⟩
theorem ja.below{w w1:World}{A:Option Addr}{n:Nat}{xs:List α}(h:ja enc d w A n xs)(hb:Below w.heap.size w w1):ja enc d w1 A n xs:=
 ⟨h.1,h.2.1,fun hn=>by
  obtain⟨ad,e,hc⟩:=h.2.2 hn
  exact⟨ad,e,fun j hj=>jZ hb (hc j hj)⟩⟩
theorem ja.take_{w:World}{A:Option Addr}{n:Nat}{xs:List α}(h:ja enc d w A n xs)(i:Nat)(hi:i≤n):ja enc d w A i (xs.take i):=by
 refine⟨by rw[List.length_take,h.1];omega,by have:=h.2.1;omega,fun hp=>?_⟩
 obtain⟨ad,e,hc⟩:=h.2.2 (by omega)
 refine⟨ad,e,fun j hj=>?_⟩
 rw[hc j (by omega)]
 simp[List.getD_eq_getElem?_getD,hj]
theorem Xf{W:World}{base g n cap:Nat}{e:TypeId}{xs:List α}(h:W.ownsRow base e 1 (.slice (some ⟨g,0,none⟩) n cap) n (encs enc xs))(i:Int)(h0:0≤i)(h1:i<n):
 W.cell? ⟨g,i.toNat,none⟩=some (enc (MG d xs i))∧W.frozen? ⟨g,i.toNat,none⟩=false:=by
 have hl:xs.length=n:=by have:=h.1;simp[encs]at this;exact this
 constructor
 ·have hc:=h.cells (g:=g) rfl i.toNat _ (YE (d:=d) xs i.toNat (by omega))
  rwa[add_plain]at hc
 ·rcases h.2 with⟨h',_⟩|⟨g',cap',cur,h',_,hh,_⟩
  ·cases h'
  ·have:g=g':=by injection h' with h';injection h' with h';injection h' with h'
   subst this
   simp[World.frozen?,hh]
theorem JB{W:World}{base g n cap:Nat}{e:TypeId}{xs:List α}(h:W.ownsRow base e 1 (.slice (some ⟨g,0,none⟩) n cap) n (encs enc xs))(i:Int)(x:α):
 (W.setCell ⟨g,i.toNat,none⟩ (enc x)).ownsRow base e 1 (.slice (some ⟨g,0,none⟩) n cap) n (encs enc (xs.set i.toNat x))∧W.grownBy (W.setCell ⟨g,i.toNat,none⟩ (enc x)) (some g):=by
 have hs:=h.stored i.toNat (enc x)
 have he:(encs enc xs).set i.toNat (enc x)=encs enc (xs.set i.toNat x):=by simp[encs,List.map_set]
 rwa[he]at hs
end
theorem wY{w:World}{g:Nat}{o:Obj}(h:w.heap[g]?=some o)(o':Obj):(w.alloc o').heap[g]?=some o:=(Below.heap_alloc w o' g (gJ h)).trans h
theorem dw{w:World}{g:Nat}{o:Obj}(h:w.heap[g]?=some o):w.drew.heap[g]?=some o:=h
theorem wZ{w:World}{g:Nat}{o:Obj}(h:w.heap[g]?=some o)(n:Nat):(w.drewN n).heap[g]?=some o:=h
theorem dR{w w1:World}{g:Nat}{o:Obj}(h:w.heap[g]?=some o)(hb:Below w.heap.size w w1):w1.heap[g]?=some o:=(hb.block g (gJ h)).trans h
theorem zB(w:World)(o:Obj):(w.alloc o).heap[w.heap.size]?=some o:=heap_alloc_new w o
section
variable {P:Program}
theorem nG{fn:Func}{p u:Tmp}{ty:TypeId}(h:fn.results=#[.cell p ty,.tmp u])(tmps:Array Value)(w:World)(g:Nat)(t:TypeId)(cs:Array Value)(fr:Nat×Nat)(d:TypeDesc)
 (hp:tmps.getD p undef= .pointer (some ⟨g,0,none⟩))(hg:w.heap[g]?=some (.cells cs t fr))
 (hu:P.underlying ty=some d)(hd:(match d with|.struct _|.array _ _=>true|_=>false)=true)(hi:(P.info? ty).map (·.size)=some cs.size):
 (results fn tmps).run P w= .ok (.tuple #[.agg cs,tmps.getD u undef]) w:=by
 have hp':tmps[p]?.getD undef= .pointer (some ⟨g,0,none⟩):=by simpa using hp
 simp[results,h,hp',asAddr,run_loadVar_row w g t ty cs fr d hg hu hd hi]
theorem QJ{fn:Func}{p u:Tmp}{ty:TypeId}(h:fn.results=#[.tmp u,.cell p ty])(tmps:Array Value)(w:World)(g:Nat)(t:TypeId)(cs:Array Value)(fr:Nat×Nat)(d:TypeDesc)
 (hp:tmps.getD p undef= .pointer (some ⟨g,0,none⟩))(hg:w.heap[g]?=some (.cells cs t fr))
 (hu:P.underlying ty=some d)(hd:(match d with|.struct _|.array _ _=>true|_=>false)=true)(hi:(P.info? ty).map (·.size)=some cs.size):
 (results fn tmps).run P w= .ok (.tuple #[tmps.getD u undef,.agg cs]) w:=by
 have hp':tmps[p]?.getD undef= .pointer (some ⟨g,0,none⟩):=by simpa using hp
 simp[results,h,hp',asAddr,run_loadVar_row w g t ty cs fr d hg hu hd hi]
theorem fA{fn:Func}{p u v:Tmp}{ty:TypeId}(h:fn.results=#[.cell p ty,.tmp u,.tmp v])(tmps:Array Value)(w:World)(g:Nat)(t:TypeId)(cs:Array Value)(fr:Nat×Nat)(d:TypeDesc)
 (hp:tmps.getD p undef= .pointer (some ⟨g,0,none⟩))(hg:w.heap[g]?=some (.cells cs t fr))
 (hu:P.underlying ty=some d)(hd:(match d with|.struct _|.array _ _=>true|_=>false)=true)(hi:(P.info? ty).map (·.size)=some cs.size):
 (results fn tmps).run P w= .ok (.tuple #[.agg cs,tmps.getD u undef,tmps.getD v undef]) w:=by
 have hp':tmps[p]?.getD undef= .pointer (some ⟨g,0,none⟩):=by simpa using hp
 simp[results,h,hp',asAddr,run_loadVar_row w g t ty cs fr d hg hu hd hi]
end
theorem aec{w:World}{base n m c size:Nat}{e:TypeId}{A:Option Addr}{xs:List Value}(h:w.ownsRow base e size (.slice A m c) n xs):m≤c:=by
 rcases h.2 with⟨he,_⟩|⟨g,cap,cur,he,_,_,hnc,_⟩
 ·injection he with _ h2 h3
  omega
 ·injection he with _ h2 h3
  omega
def jg{α:Type}(R:α→List Value→Prop)(e:TypeId)(size:Nat)(w:World)(base:Nat)(v:Value)(ps:List α):Prop:=
 ∃inner,w.ownsRow base e size v ps.length inner∧dm R size ps inner
section
variable {α:Type} {R R':α→List Value→Prop} {e:TypeId} {size:Nat} {w w1:World} {base:Nat} {v:Value} {ps:List α}
theorem jg.none_(R:α→List Value→Prop)(e:TypeId)(size:Nat)(w:World)(base:Nat):jg R e size w base (.slice none 0 0) []:=⟨[],a4c _ _ _ _,dm.none _ _⟩
theorem jg.imp_(h:jg R e size w base v ps)(hR:∀p c,R p c→R' p c):jg R' e size w base v ps:=by
 obtain⟨inner,ho,hr⟩:=h
 exact⟨inner,ho,hr.imp_ hR⟩
theorem jg.below(h:jg R e size w base v ps)(hb:Below w.heap.size w w1):jg R e size w1 base v ps:=by
 obtain⟨inner,ho,hr⟩:=h
 exact⟨inner,JA ho hb,hr⟩
theorem jg.set_(h:jg R e size w base v ps){g:Nat}{t:TypeId}{cells:Array Value}(hb:w.heap[g]?=some (.cells cells t (0,0)))(ht:e≠t)(j:Nat)(u:Value):jg R e size (w.setCell ⟨g,j,none⟩ u) base v ps:=by
 obtain⟨inner,ho,hr⟩:=h
 exact⟨inner,MF ho (own_ne ho hb ht) u,hr⟩
theorem jg.keep(h:jg R e size w base v ps){g:Nat}{t:TypeId}{cells:Array Value}(hb:w.heap[g]?=some (.cells cells t (0,0)))(ht:e≠t)(hk:ax w w1 g none):jg R e size w1 base v ps:=by
 obtain⟨inner,ho,hr⟩:=h
 exact⟨inner,hk.own ho (Ne.symm (own_ne ho hb ht)) (by cases v.ownBlock<;>simp),hr⟩
theorem jg.reads(h:jg R e size w base v ps):∃A c,v= .slice A ps.length c∧ps.length≤c∧jH R size w A ps.length ps:=by
 obtain⟨inner,ho,hr⟩:=h
 obtain⟨A,c,rfl,hrow⟩:=Ht ho hr rfl
 exact⟨A,c,rfl,aec ho,hrow⟩
theorem jg.ne_block(h:jg R e size w base v ps){g:Nat}{t:TypeId}{cells:Array Value}(hb:w.heap[g]?=some (.cells cells t (0,0)))(ht:e≠t):some g≠v.ownBlock:=by
 obtain⟨inner,ho,hr⟩:=h
 exact own_ne ho hb ht
theorem jg.lit(W:World)(base:Nat){inner:List Value}(hr:dm R size ps inner)(hb:base≤W.heap.size)(hm:ps.length≤9223372036854775807):
 jg R e size (W.alloc (.cells inner.toArray e)) base (.slice (some ⟨W.heap.size,0,none⟩) ps.length ps.length) ps:=by
 have h:=World.ownsRow_lit (base:=base) (e:=e) (size:=size) W inner.toArray ps.length hb (by simpa [maxLen]using hm) (by simpa using hr.1)
 exact⟨inner,by simpa using h,hr⟩
end
section
variable {P:Program} {ops:Array Oper} {rest:List Oper} {o:Oper} {a:Act} {Q:Exit→Act→World→Prop} {α:Type} {R:α→List Value→Prop}
theorem jg.append{w0 W:World}(base:Nat)(hgd:o.guard=none)(s x:Operand)(t e:TypeId)(z:Value)(size bytes:Nat)
 (ho:o.op= .call {callee:=.builtin .append,args:=#[s,x],argTypes:=#[t,t]})
 (ht:P.underlying t=some (.slice e))(hinfo:(P.info? e).map (fun i=>(i.zero,i.size,i.bytes))=some (some z,size,bytes))(hz:z.cells.size=size)(hs0:0<size)(hb0:0<bytes)
 (v:Value)(ps:List α)(p:α)(cs:List Value)(hs:a.eval s=v)(hx:a.eval x= .slice (some ⟨W.heap.size,0,none⟩) 1 1)(hp:R p cs)(hcs:cs.length=size)(h1:∀u∈cs,u.oneCell'=true)
 (HO:jg R e size W base v ps)(HB:Below base w0 W)(hbase:base≤W.heap.size)(hl:(ps.length+1)*bytes≤140737488355328)
 (h:∀v1 w1,jg R e size w1 base v1 (ps++[p])→Below base w0 w1→W.grownBy w1 v.ownBlock→(v1.ownBlock=v.ownBlock∨∃b,v1.ownBlock=some b∧W.heap.size≤b)→wpList P ops Q rest (a.put o.dst v1) w1):
 wpList P ops Q (o::rest) a (W.alloc (.cells cs.toArray e)):=by
 obtain⟨inner,hown,hr⟩:=HO
 refine qG base hgd s x t e z size bytes ho ht hinfo hz hs0 hb0 v ps.length inner cs hs hx hcs h1 hown HB hbase hl ?_
 intro v1 w1 hown1 hb1 hg1 a4d
 exact h v1 w1 ⟨inner++cs,by rw[List.length_append,List.length_singleton];exact hown1,hr.snoc hp hcs⟩ hb1 hg1 a4d
end
theorem jH.inner_{α:Type}{R:α→List Value→Prop}{size:Nat}{w:World}{ad:Addr}{n:Nat}{ps:List α}(h:jH R size w (some ad) n ps):
 ∃inner,dm R size ps inner∧∀j u,inner[j]?=some u→w.cell? (ad.add j)=some u:=by
 have key:∀m,m≤ps.length→∃inner,dm R size (ps.take m) inner∧∀j u,inner[j]?=some u→w.cell? (ad.add j)=some u:=by
  intro m
  induction m with
  |zero=>exact fun _=>⟨[],dm.none _ _,fun j u hu=>by simp at hu⟩
  |succ m ih=>
   intro hm
   obtain⟨inner,hr,hc⟩:=ih (by omega)
   obtain⟨ad',he,hcell⟩:=h.2.2 (by have:=h.1;omega)
   injection he with he
   subst he
   obtain⟨c,hcl,hp,hcc⟩:=hcell m _ (List.getElem?_eq_getElem (show m<ps.length by omega))
   refine⟨inner++c,?_,fun j u hu=>?_⟩
   ·rw[List.take_succ_eq_append_getElem (show m<ps.length by omega)]
    exact hr.snoc hp hcl
   ·have hil:inner.length=m*size:=by rw[hr.1,List.length_take,Nat.min_eq_left (by omega)]
    rcases Nat.lt_or_ge j inner.length with hj|hj
    ·rw[List.getElem?_append_left hj]at hu
     exact hc j u hu
    ·rw[List.getElem?_append_right hj]at hu
     have:=hcc (j-inner.length) u hu
     rwa[hil,Nat.add_sub_cancel' (by omega)]at this
 obtain⟨inner,hr,hc⟩:=key ps.length (Nat.le_refl _)
 rw[List.take_length]at hr
 exact⟨inner,hr,hc⟩
section
variable {α:Type} {P:Program}
theorem Hu(enc:α→Value)(d:α)(t e:TypeId)(kl:IntKind){i:TypeInfo}(ht:P.underlying t=some (.slice e))(hi:P.info? e=some i)(hsz:i.size=1)(A:Option Addr)(c:Nat)(xs:List α)(j:Int)(h0:0≤j)(hm:j≤xs.length)(hc:xs.length≤c):
 (∀W:World,(Instr.slice t (.slice A xs.length c) none (some (.int kl j)) none).run P W= .ok (.slice A (xs.take j.toNat).length c) W)∧
  (∀w:World,ja enc d w A xs.length xs→ja enc d w A (xs.take j.toNat).length (xs.take j.toNat))∧(xs.take j.toNat).length≤c:=by
 have hl:(xs.take j.toNat).length=j.toNat:=by rw[List.length_take];omega
 refine⟨fun W=>?_,fun w h=>by rw[hl];exact h.take_ j.toNat (by omega),by rw[hl];omega⟩
 have hel:P.elem t=e:=by simp[Program.elem,ht]
 have hu:P.underlying t=some (.slice (P.elem t)):=by rw[hel];exact ht
 have ha:(A.map fun x=>x.add 0)=A:=by cases A<;>simp[Addr.add]
 rw[run_slice_h W t A xs.length c hu kl j h0 (by omega),hel,hl]
 simp[sizeOf,typeInfo,hi,hsz,sliced,Result.andThen,ha]
end
structure Kd(α:Type)where
 sz:Nat
 E:List Nat
 K:World→α→List Value→Prop
 M:World→Nat→(Nat→Prop)→α→List Value→Prop
 K_len:∀{w x cs},K w x cs→cs.length=sz
 K_one:∀{w x cs},K w x cs→∀u∈cs,u.oneCell'=true
 K_below:∀{w w1:World}{x cs},Below w.heap.size w w1→K w x cs→K w1 x cs
 K_of_M:∀{w base ok x cs},M w base ok x cs→K w x cs
 M_mono:∀{w base ok ok' x cs},(∀k,ok k→ok' k)→M w base ok x cs→M w base ok' x cs
 M_bound:∀{w:World}{base ok x cs},M w base ok x cs→M w base (fun k=>ok k∧base≤k∧k<w.heap.size∧∃q,q∈E∧∃cells,w.heap[k]?=some (.cells cells q (0,0))) x cs
 M_move:∀{w w1:World}{base ok x cs},(∀k,ok k→w1.heap[k]?=w.heap[k]?)→M w base ok x cs→M w1 base ok x cs
 M_lower:∀{w base base' ok x cs},base'≤base→M w base ok x cs→M w base' ok x cs
theorem YF{w w1:World}{base:Nat}{e:TypeId}{size n:Nat}{v:Value}{xs:List Value}(h:w.ownsRow base e size v n xs)(hm:∀k,v.ownBlock=some k→w1.heap[k]?=w.heap[k]?):w1.ownsRow base e size v n xs:=by
 obtain⟨h1,h2⟩:=h
 refine⟨h1,?_⟩
 rcases h2 with h2|⟨g,cap,cur,rfl,hg,hh,r⟩
 ·exact .inl h2
 ·exact .inr ⟨g,cap,cur,rfl,hg,(hm g (by simp[Value.ownBlock])).trans hh,r⟩
theorem Ib{w:World}{base:Nat}{e:TypeId}{size n:Nat}{v:Value}{xs:List Value}(h:w.ownsRow base e size v n xs)(k:Nat)(hk:v.ownBlock=some k):∃cells,w.heap[k]?=some (.cells cells e (0,0)):=by
 rcases h.2 with⟨rfl,_⟩|⟨g,cap,cur,rfl,hg,hh,r⟩
 ·simp[Value.ownBlock]at hk
 ·have:g=k:=by simpa [Value.ownBlock]using hk
  subst this
  exact⟨cur,hh⟩
namespace Kd
def C{α:Type}(d:Kd α)(w:World)(A:Option Addr)(n:Nat)(xs:List α):Prop:=jH (d.K w) d.sz w A n xs
def R{α:Type}(d:Kd α)(e:Nat)(w:World)(base:Nat)(ok:Nat→Prop)(v:Value)(xs:List α):Prop:=
 (∀k,v.ownBlock=some k→ok k)∧jg (d.M w base (fun k=>ok k∧some k≠v.ownBlock)) e d.sz w base v xs
section
variable {α:Type} {d:Kd α} {e:Nat} {w w1:World} {base:Nat} {ok ok':Nat→Prop} {v:Value} {xs:List α}
theorem C_below{A:Option Addr}{n:Nat}(h:d.C w A n xs)(hb:Below w.heap.size w w1):d.C w1 A n xs:=jH.imp_ h hb (fun _ _ hp=>d.K_below hb hp)
theorem R_nil(d:Kd α)(e:Nat)(w:World)(base:Nat)(ok:Nat→Prop):d.R e w base ok (.slice none 0 0) []:=⟨fun k hk=>by simp[Value.ownBlock]at hk,jg.none_ _ _ _ _ _⟩
theorem R_mono(h:d.R e w base ok v xs)(hok:∀k,ok k→ok' k):d.R e w base ok' v xs:=⟨fun k hk=>hok k (h.1 k hk),h.2.imp_ (fun _ _ hp=>d.M_mono (fun k hk=>⟨hok k hk.1,hk.2⟩) hp)⟩
theorem R_bound(h:d.R e w base ok v xs):d.R e w base (fun k=>ok k∧base≤k∧k<w.heap.size∧∃q,q∈e::d.E∧∃cells,w.heap[k]?=some (.cells cells q (0,0))) v xs:=by
 obtain⟨h0,inner,ho,hr⟩:=h
 refine⟨fun k hk=>?_,inner,ho,hr.imp_ (fun _ _ hp=>d.M_mono (fun k hk=>?_) (d.M_bound hp))⟩
 ·obtain⟨cells,hc⟩:=Ib ho k hk
  exact⟨h0 k hk,tH ho k hk,YD ho k hk,e,List.mem_cons_self,cells,hc⟩
 ·obtain⟨⟨h1,h2⟩,h3,h4,q,hq,hc⟩:=hk
  exact⟨⟨h1,h3,h4,q,List.mem_cons_of_mem _ hq,hc⟩,h2⟩
theorem R_move(h:d.R e w base ok v xs)(hm:∀k,ok k→w1.heap[k]?=w.heap[k]?):d.R e w1 base ok v xs:=by
 obtain⟨h0,inner,ho,hr⟩:=h
 exact⟨h0,inner,YF ho (fun k hk=>hm k (h0 k hk)),hr.imp_ (fun _ _ hp=>d.M_move (fun k hk=>hm k hk.1) hp)⟩
theorem R_lower{base':Nat}(h:d.R e w base ok v xs)(hb:base'≤base):d.R e w base' ok v xs:=by
 obtain⟨h0,inner,ho,hr⟩:=h
 exact⟨h0,inner,QI ho hb,hr.imp_ (fun _ _ hp=>d.M_lower hb hp)⟩
theorem R_step(h:d.R e w base ok v xs)(hm:∀k,ok k→k<w.heap.size→w1.heap[k]?=w.heap[k]?):d.R e w1 base ok v xs:=
 R_mono (R_move (R_bound h) (fun k hk=>hm k hk.1 hk.2.2.1)) (fun _ hk=>hk.1)
theorem M_step{x:α}{cs:List Value}(h:d.M w base ok x cs)(hm:∀k,ok k→k<w.heap.size→w1.heap[k]?=w.heap[k]?):d.M w1 base ok x cs:=
 d.M_mono (fun _ hk=>hk.1) (d.M_move (fun k hk=>hm k hk.1 hk.2.2.1) (d.M_bound h))
theorem R_below(h:d.R e w base ok v xs)(hb:Below w.heap.size w w1):d.R e w1 base ok v xs:=R_step h (fun k _ hk=>hb.block k hk)
theorem M_below{x:α}{cs:List Value}(h:d.M w base ok x cs)(hb:Below w.heap.size w w1):d.M w1 base ok x cs:=M_step h (fun k _ hk=>hb.block k hk)
theorem R_far(h:d.R e w base ok v xs){p:Addr}(hok:∀k,ok k→k≠p.block)(u:Value):d.R e (w.setCell p u) base ok v xs:=R_step h (fun k ho _=>Below.heap_setCell w p u k (hok k ho))
theorem R_keep(h:d.R e w base ok v xs){g:Nat}(hk:ax w w1 g none)(hok:∀k,ok k→k≠g):d.R e w1 base ok v xs:=R_step h (fun k ho hlt=>hk.2 k hlt (hok k ho) (by simp))
theorem R_types(h:d.R e w base ok v xs){g t:Nat}{cells:Array Value}(hb:w.heap[g]?=some (.cells cells t (0,0)))(ht:∀q,q∈e::d.E→q≠t):d.R e w base (fun k=>ok k∧k≠g) v xs:=
 R_mono (R_bound h) (fun k hk=>⟨hk.1,by
  obtain⟨_,_,_,q,hq,cells',hc⟩:=hk
  rintro rfl
  rw[hc]at hb
  injection hb with hb
  injection hb with _ hb
  exact ht q hq hb⟩)
theorem R_reads(h:d.R e w base ok v xs):∃A c,v= .slice A xs.length c∧xs.length≤c∧d.C w A xs.length xs:=by
 obtain⟨A,c,he,hl,hr⟩:=jg.reads h.2
 exact⟨A,c,he,hl,hr.imp_ (Below.refl _ _) (fun _ _ hp=>d.K_of_M hp)⟩
theorem R_slice(h:d.R e w base ok v xs):∃A c,v= .slice A xs.length c:=by
 obtain⟨A,c,he,_⟩:=R_reads h
 exact⟨A,c,he⟩
theorem R_own(h:d.R e w base ok v xs):∃inner,w.ownsRow base e d.sz v xs.length inner:=by
 obtain⟨_,inner,ho,_⟩:=h
 exact⟨inner,ho⟩
theorem R_ne(h:d.R e w base ok v xs){g t:Nat}{cells:Array Value}(hb:w.heap[g]?=some (.cells cells t (0,0)))(ht:e≠t):some g≠v.ownBlock:=jg.ne_block h.2 hb ht
end
def scalar{α:Type}(enc:α→Value)(h1:∀x,(enc x).oneCell'=true):Kd α where
 sz:=1
 E:=[]
 K:=fun _ x cs=>cs=[enc x]
 M:=fun _ _ _ x cs=>cs=[enc x]
 K_len:=fun h=>by rw[h];rfl
 K_one:=fun h u hu=>by
  rw[h]at hu
  rw[List.mem_singleton.1 hu]
  exact h1 _
 K_below:=fun _ h=>h
 K_of_M:=fun h=>h
 M_mono:=fun _ h=>h
 M_bound:=fun h=>h
 M_move:=fun _ h=>h
 M_lower:=fun _ h=>h
def int(k:IntKind):Kd Int:=scalar (Value.int k) (fun _=>rfl)
def bool:Kd Bool:=scalar Value.bool (fun _=>rfl)
def string:Kd ByteArray:=scalar Value.string (fun _=>rfl)
def slice{α:Type}(e:Nat)(d:Kd α):Kd (List α) where
 sz:=1
 E:=e::d.E
 K:=fun w xs cs=>∃A c,cs=[.slice A xs.length c]∧xs.length≤c∧d.C w A xs.length xs
 M:=fun w base ok xs cs=>∃v,cs=[v]∧d.R e w base ok v xs
 K_len:=by
  rintro w x cs ⟨A,c,rfl,_⟩
  rfl
 K_one:=by
  rintro w x cs ⟨A,c,rfl,_⟩ u hu
  rw[List.mem_singleton.1 hu]
  rfl
 K_below:=by
  rintro w w1 x cs hb ⟨A,c,rfl,hl,hr⟩
  exact⟨A,c,rfl,hl,C_below hr hb⟩
 K_of_M:=by
  rintro w base ok x cs ⟨v,rfl,h⟩
  obtain⟨A,c,rfl,hl,hr⟩:=R_reads h
  exact⟨A,c,rfl,hl,hr⟩
 M_mono:=by
  rintro w base ok ok' x cs hok ⟨v,rfl,h⟩
  exact⟨v,rfl,R_mono h hok⟩
 M_bound:=by
  rintro w base ok x cs ⟨v,rfl,h⟩
  exact⟨v,rfl,R_bound h⟩
 M_move:=by
  rintro w w1 base ok x cs hm ⟨v,rfl,h⟩
  exact⟨v,rfl,R_move h hm⟩
 M_lower:=by
  rintro w base base' ok x cs hb ⟨v,rfl,h⟩
  exact⟨v,rfl,R_lower h hb⟩
def pair{α β:Type}(a:Kd α)(b:Kd β):Kd (α×β) where
 sz:=a.sz+b.sz
 E:=a.E++b.E
 K:=fun w x cs=>∃c0 c1,cs=c0++c1∧a.K w x.1 c0∧b.K w x.2 c1
 M:=fun w base ok x cs=>∃c0 c1,cs=c0++c1∧a.M w base ok x.1 c0∧b.M w base ok x.2 c1
 K_len:=by
  rintro w x cs ⟨c0,c1,rfl,h0,h1⟩
  rw[List.length_append,a.K_len h0,b.K_len h1]
 K_one:=by
  rintro w x cs ⟨c0,c1,rfl,h0,h1⟩ u hu
  rcases List.mem_append.1 hu with hu|hu
  ·exact a.K_one h0 u hu
  ·exact b.K_one h1 u hu
 K_below:=by
  rintro w w1 x cs hb ⟨c0,c1,rfl,h0,h1⟩
  exact⟨c0,c1,rfl,a.K_below hb h0,b.K_below hb h1⟩
 K_of_M:=by
  rintro w base ok x cs ⟨c0,c1,rfl,h0,h1⟩
  exact⟨c0,c1,rfl,a.K_of_M h0,b.K_of_M h1⟩
 M_mono:=by
  rintro w base ok ok' x cs hok ⟨c0,c1,rfl,h0,h1⟩
  exact⟨c0,c1,rfl,a.M_mono hok h0,b.M_mono hok h1⟩
 M_bound:=by
  rintro w base ok x cs ⟨c0,c1,rfl,h0,h1⟩
  refine⟨c0,c1,rfl,a.M_mono ?_ (a.M_bound h0),b.M_mono ?_ (b.M_bound h1)⟩
  ·rintro k ⟨h2,h3,h4,q,hq,hc⟩
   exact⟨h2,h3,h4,q,List.mem_append_left _ hq,hc⟩
  ·rintro k ⟨h2,h3,h4,q,hq,hc⟩
   exact⟨h2,h3,h4,q,List.mem_append_right _ hq,hc⟩
 M_move:=by
  rintro w w1 base ok x cs hm ⟨c0,c1,rfl,h0,h1⟩
  exact⟨c0,c1,rfl,a.M_move hm h0,b.M_move hm h1⟩
 M_lower:=by
  rintro w base base' ok x cs hb ⟨c0,c1,rfl,h0,h1⟩
  exact⟨c0,c1,rfl,a.M_lower hb h0,b.M_lower hb h1⟩
def iso{α β:Type}(d:Kd α)(f:β→α):Kd β where
 sz:=d.sz
 E:=d.E
 K:=fun w x cs=>d.K w (f x) cs
 M:=fun w base ok x cs=>d.M w base ok (f x) cs
 K_len:=d.K_len
 K_one:=d.K_one
 K_below:=d.K_below
 K_of_M:=d.K_of_M
 M_mono:=d.M_mono
 M_bound:=d.M_bound
 M_move:=d.M_move
 M_lower:=d.M_lower
def bot{α:Type}(sz:Nat)(E:List Nat):Kd α where
 sz:=sz
 E:=E
 K:=fun _ _ _=>False
 M:=fun _ _ _ _ _=>False
 K_len:=fun h=>h.elim
 K_one:=fun h=>h.elim
 K_below:=fun _ h=>h
 K_of_M:=fun h=>h
 M_mono:=fun _ h=>h
 M_bound:=fun h=>h
 M_move:=fun _ h=>h
 M_lower:=fun _ h=>h
def upto{α:Type}(F:Kd α→Kd α)(sz:Nat)(E:List Nat):Nat→Kd α
 |0=>bot sz E
 |n+1=>F (upto F sz E n)
theorem C_get{α:Type}{d:Kd α}{w:World}{A:Option Addr}{n:Nat}{xs:List α}(h:d.C w A n xs)(z:α)(i:Int)(h0:0≤i)(h1:i<n):
 ∃ad c,A=some ad∧c.length=d.sz∧d.K w (xs.getD i.toNat z) c∧∀j u,c[j]?=some u→w.cell? (ad.add (i.toNat*d.sz+j))=some u:=jH.get_ h z i h0 h1
theorem R_appended{α:Type}{d:Kd α}{e base:Nat}{ok okp:Nat→Prop}{W w1:World}{v v1:Value}{xs:List α}{p:α}{inner cs:List Value}(h0:∀k,v.ownBlock=some k→ok k)(hr:dm (d.M W base (fun k=>ok k∧some k≠v.ownBlock)) d.sz xs inner)(hp:d.M W base okp p cs)(hokp:∀k,okp k→ok k∧some k≠v.ownBlock)(hfresh:∀k,W.heap.size≤k→ok k)
 (hown:w1.ownsRow base e d.sz v1 (xs.length+1) (inner++cs))(hg:W.grownBy w1 v.ownBlock)(hat:v1.ownBlock=v.ownBlock∨∃b,v1.ownBlock=some b∧W.heap.size≤b):d.R e w1 base ok v1 (xs++[p]):=by
 have hne:∀k,some k≠v.ownBlock→k<W.heap.size→some k≠v1.ownBlock:=by
  intro k hk hlt
  rcases hat with hat|⟨b,hb,hle⟩
  ·rw[hat];exact hk
  ·rw[hb]
   intro he
   injection he with he
   omega
 have step:∀{q:α}{c:List Value}{o:Nat→Prop},d.M W base o q c→(∀k,o k→ok k∧some k≠v.ownBlock)→d.M w1 base (fun k=>ok k∧some k≠v1.ownBlock) q c:=by
  intro q c o hq ho
  have h1:=d.M_move (w1:=w1) (fun k hk=>hg.block k hk.2.2.1 (ho k hk.1).2) (d.M_bound hq)
  exact d.M_mono (fun k hk=>⟨(ho k hk.1).1,hne k (ho k hk.1).2 hk.2.2.1⟩) h1
 refine⟨fun k hk=>?_,inner++cs,by rw[List.length_append,List.length_singleton];exact hown,?_⟩
 ·rcases hat with hat|⟨b,hb,hle⟩
  ·exact h0 k (hat▸hk)
  ·rw[hb]at hk
   injection hk with hk
   exact hfresh k (by omega)
 ·exact(hr.imp_ (fun _ _ hq=>step hq (fun _ hk=>hk))).snoc (step hp hokp) (d.K_len (d.K_of_M hp))
section
variable {P:Program} {ops:Array Oper} {rest:List Oper} {o:Oper} {a:Act} {Q:Exit→Act→World→Prop} {α:Type}
theorem R_append(d:Kd α){w0 W:World}(base:Nat)(hgd:o.guard=none)(s x:Operand)(t e:TypeId)(z:Value)(bytes:Nat)
 (ho:o.op= .call {callee:=.builtin .append,args:=#[s,x],argTypes:=#[t,t]})
 (ht:P.underlying t=some (.slice e))(hinfo:(P.info? e).map (fun i=>(i.zero,i.size,i.bytes))=some (some z,d.sz,bytes))(hz:z.cells.size=d.sz)(hs0:0<d.sz)(hb0:0<bytes)
 (v:Value)(xs:List α)(p:α)(cs:List Value)(ok okp:Nat→Prop)(hs:a.eval s=v)(hx:a.eval x= .slice (some ⟨W.heap.size,0,none⟩) 1 1)(hp:d.M W base okp p cs)(hokp:∀k,okp k→ok k∧some k≠v.ownBlock)(hfresh:∀k,W.heap.size≤k→ok k)
 (HO:d.R e W base ok v xs)(HB:Below base w0 W)(hbase:base≤W.heap.size)(hl:(xs.length+1)*bytes≤140737488355328)
 (h:∀v1 w1,d.R e w1 base ok v1 (xs++[p])→Below base w0 w1→W.grownBy w1 v.ownBlock→(v1.ownBlock=v.ownBlock∨∃b,v1.ownBlock=some b∧W.heap.size≤b)→wpList P ops Q rest (a.put o.dst v1) w1):
 wpList P ops Q (o::rest) a (W.alloc (.cells cs.toArray e)):=by
 obtain⟨h0,inner,hown,hr⟩:=HO
 refine qG base hgd s x t e z d.sz bytes ho ht hinfo hz hs0 hb0 v xs.length inner cs hs hx (d.K_len (d.K_of_M hp)) (d.K_one (d.K_of_M hp)) hown HB hbase hl ?_
 intro v1 w1 hown1 hb1 hg1 a4d
 exact h v1 w1 (R_appended h0 hr hp hokp hfresh hown1 hg1 a4d) hb1 hg1 a4d
end
theorem reps_scalar{α:Type}{enc:α→Value}(xs:List α):dm (fun(x:α)(cs:List Value)=>cs=[enc x]) 1 xs (encs enc xs):=by
 refine⟨by simp[encs],fun j p hj=>?_⟩
 obtain⟨hl,hp⟩:=List.getElem?_eq_some_iff.1 hj
 have hl':j<(encs enc xs).length:=by rw[Df];exact hl
 rw[Nat.mul_one,List.drop_eq_getElem_cons hl']
 simp[encs,hp]
theorem R_of_own{α:Type}{enc:α→Value}{h1:∀x,(enc x).oneCell'=true}{e:Nat}{w:World}{base:Nat}{ok:Nat→Prop}{v:Value}{xs:List α}(ho:w.ownsRow base e 1 v xs.length (encs enc xs))(hok:∀k,v.ownBlock=some k→ok k):(scalar enc h1).R e w base ok v xs:=⟨hok,encs enc xs,ho,reps_scalar xs⟩
theorem own_of_R{α:Type}{enc:α→Value}{h1:∀x,(enc x).oneCell'=true}{e:Nat}{w:World}{base:Nat}{ok:Nat→Prop}{v:Value}{xs:List α}(h:(scalar enc h1).R e w base ok v xs):w.ownsRow base e 1 v xs.length (encs enc xs):=by
 obtain⟨_,inner,ho,hr⟩:=h
 have:inner=encs enc xs:=by
  apply List.ext_getElem?
  intro j
  rcases Nat.lt_or_ge j xs.length with hj|hj
  ·have h2:=hr.2 j _ (List.getElem?_eq_getElem hj)
   have hl:j<inner.length:=by have:=hr.1;simp[scalar]at this;omega
   have h3:(inner.drop (j*1)).take 1=[enc xs[j]]:=h2
   rw[Nat.mul_one,List.drop_eq_getElem_cons hl]at h3
   have h4:inner[j]=enc xs[j]:=by
    have h5:=congrArg List.head? h3
    rw[List.take_succ_cons]at h5
    exact Option.some.inj h5
   rw[List.getElem?_eq_getElem hl,h4]
   simp[encs,List.getElem?_eq_getElem hj]
  ·have h3:inner.length=xs.length:=by have:=hr.1;simp[scalar]at this;omega
   rw[List.getElem?_eq_none (by omega),List.getElem?_eq_none (by rw[Df];omega)]
 rw[←this]
 exact ho
theorem C_of_reads{α:Type}{enc:α→Value}{d:α}{h1:∀x,(enc x).oneCell'=true}{w:World}{A:Option Addr}{n:Nat}{xs:List α}(h:ja enc d w A n xs):(scalar enc h1).C w A n xs:=by
 refine⟨h.1,h.2.1,fun hn=>?_⟩
 obtain⟨ad,e,hc⟩:=h.2.2 hn
 refine⟨ad,e,fun j p hj=>⟨[enc p],rfl,rfl,fun i u hu=>?_⟩⟩
 obtain⟨hl,hp⟩:=List.getElem?_eq_some_iff.1 hj
 have h2:=hc j (by have:=h.1;omega)
 rw[List.getD_eq_getElem?_getD,hj]at h2
 cases i with
 |zero=>
  have:enc p=u:=by simpa using hu
  subst this
  simpa [scalar]using h2
 |succ i=>simp at hu
theorem reads_of_C{α:Type}{enc:α→Value}{d:α}{h1:∀x,(enc x).oneCell'=true}{w:World}{A:Option Addr}{n:Nat}{xs:List α}(h:(scalar enc h1).C w A n xs):ja enc d w A n xs:=by
 refine⟨h.1,h.2.1,fun hn=>?_⟩
 obtain⟨ad,e,hc⟩:=h.2.2 hn
 refine⟨ad,e,fun j hj=>?_⟩
 have hl:j<xs.length:=by have:=h.1;omega
 obtain⟨c,_,hK,hcell⟩:=hc j _ (List.getElem?_eq_getElem hl)
 have hK':c=[enc xs[j]]:=hK
 subst hK'
 have:=hcell 0 _ rfl
 simpa [scalar,List.getD_eq_getElem?_getD,List.getElem?_eq_getElem hl]using this
end Kd
namespace Kd
structure Mono{α β:Type}(F:Kd α→Kd β):Prop where
 sz:∀d d':Kd α,d.sz=d'.sz→(F d).sz=(F d').sz
 K:∀d d':Kd α,d.sz=d'.sz→(∀w x cs,d.K w x cs→d'.K w x cs)→∀w x cs,(F d).K w x cs→(F d').K w x cs
 M:∀d d':Kd α,d.sz=d'.sz→(∀w base ok x cs,d.M w base ok x cs→d'.M w base ok x cs)→∀w base ok x cs,(F d).M w base ok x cs→(F d').M w base ok x cs
end Kd
namespace Kd
theorem R_after{α:Type}{d:Kd α}{e base:Nat}{ok:Nat→Prop}{W w1:World}{u v v1:Value}{xs:List α}(h:d.R e W base (fun k=>ok k∧some k≠v.ownBlock) u xs)(hg:W.grownBy w1 v.ownBlock)(hat:v1.ownBlock=v.ownBlock∨∃b,v1.ownBlock=some b∧W.heap.size≤b):d.R e w1 base (fun k=>ok k∧some k≠v1.ownBlock) u xs:=by
 refine R_mono (R_move (R_bound h) (fun k hk=>hg.block k hk.2.2.1 hk.1.2)) (fun k hk=>⟨hk.1.1,?_⟩)
 rcases hat with hat|⟨b,hb,hle⟩
 ·rw[hat];exact hk.1.2
 ·rw[hb]
  intro he
  injection he with he
  have:=hk.2.2.1
  omega
end Kd
namespace Kd
section
variable {α β:Type} {d:Kd α} {d':Kd β} {e e':Nat} {w w1 W:World} {base b b':Nat} {ok ok' okv oku:Nat→Prop} {v u:Value} {xs:List α} {ys:List β}
theorem R_alloc(h:d.R e w base ok v xs)(o:Obj):d.R e (w.alloc o) base ok v xs:=R_below h (eY (Below.refl _ _) o)
theorem R_drew(h:d.R e w base ok v xs):d.R e w.drew base ok v xs:=R_below h (qF (Below.refl _ _))
theorem R_drewN(h:d.R e w base ok v xs)(m:Nat):d.R e (w.drewN m) base ok v xs:=R_below h (dY (Below.refl _ _) m)
theorem C_alloc{A:Option Addr}{n:Nat}(h:d.C w A n xs)(o:Obj):d.C (w.alloc o) A n xs:=C_below h (eY (Below.refl _ _) o)
theorem C_drew{A:Option Addr}{n:Nat}(h:d.C w A n xs):d.C w.drew A n xs:=C_below h (qF (Below.refl _ _))
theorem C_drewN{A:Option Addr}{n:Nat}(h:d.C w A n xs)(m:Nat):d.C (w.drewN m) A n xs:=C_below h (dY (Below.refl _ _) m)
theorem C_nil(d:Kd α)(w:World):d.C w none ([]:List α).length []:=⟨rfl,by simp,fun h=>absurd h (Nat.lt_irrefl 0)⟩
theorem R_reads'{A:Option Addr}{n c:Nat}(h:d.R e w base ok (.slice A n c) xs):n=xs.length∧n≤c∧d.C w A xs.length xs:=by
 obtain⟨A',c',he,hl,hr⟩:=R_reads h
 injection he with h1 h2 h3
 subst h1
 exact⟨h2,by omega,hr⟩
theorem R_lt(h:d.R e w base ok v xs):∀k,v.ownBlock=some k→k<w.heap.size:=by
 obtain⟨inner,ho⟩:=R_own h
 exact YD ho
theorem R_base(h:d.R e w base ok v xs):∀k,v.ownBlock=some k→base≤k:=by
 obtain⟨inner,ho⟩:=R_own h
 exact tH ho
theorem R_away(h:d.R e w base ok v xs){g:Nat}(hok:∀k,ok k→k≠g):some g≠v.ownBlock:=fun e=>hok g (h.1 g e.symm) rfl
theorem R_form(h:d.R e w base ok v xs)(hp:0<xs.length):∃g cap,v= .slice (some ⟨g,0,none⟩) xs.length cap∧base≤g∧g<w.heap.size∧∃cells,w.heap[g]?=some (.cells cells e (0,0)):=by
 obtain⟨inner,ho⟩:=R_own h
 obtain⟨g,cap,he,hb,hl⟩:=ho.form hp
 obtain⟨cells,hc⟩:=Ib ho g (by rw[he];simp[Value.ownBlock])
 exact⟨g,cap,he,hb,hl,cells,hc⟩
end
section
variable {w W:World} {A:Option Addr} {n:Nat}
theorem at_int{k:IntKind}{xs:List Int}(h:(Kd.int k).C w A n xs)(i:Int)(h0:0≤i)(h1:i<n):∃ad,A=some ad∧w.cell? (ad.add i.toNat)=some (.int k (rd xs i)):=
 ja.at_ (reads_of_C (enc:=Value.int k) (d:=(0:Int)) (h1:=fun _=>rfl) h) i h0 h1
theorem at_string{xs:List ByteArray}(h:Kd.string.C w A n xs)(i:Int)(h0:0≤i)(h1:i<n):∃ad,A=some ad∧w.cell? (ad.add i.toNat)=some (.string (MG ByteArray.empty xs i)):=
 ja.at_ (reads_of_C (enc:=Value.string) (d:=ByteArray.empty) (h1:=fun _=>rfl) h) i h0 h1
variable {α:Type} {enc:α→Value} {h1:∀x,(enc x).oneCell'=true} {e base g cap:Nat} {ok:Nat→Prop} {xs:List α}
theorem R_cell(d:α)(h:(scalar enc h1).R e W base ok (.slice (some ⟨g,0,none⟩) xs.length cap) xs)(i:Int)(h0:0≤i)(hi:i<xs.length):W.cell? ⟨g,i.toNat,none⟩=some (enc (MG d xs i))∧W.frozen? ⟨g,i.toNat,none⟩=false:=Xf (own_of_R h) i h0 hi
theorem R_put(h:(scalar enc h1).R e W base ok (.slice (some ⟨g,0,none⟩) xs.length cap) xs)(i:Int)(x:α):(scalar enc h1).R e (W.setCell ⟨g,i.toNat,none⟩ (enc x)) base ok (.slice (some ⟨g,0,none⟩) xs.length cap) (xs.set i.toNat x)∧W.grownBy (W.setCell ⟨g,i.toNat,none⟩ (enc x)) (some g):=by
 obtain⟨ho,hg⟩:=JB (own_of_R h) i x
 exact⟨R_of_own (by rw[List.length_set];exact ho) h.1,hg⟩
end
section
variable {P:Program} {ops:Array Oper} {rest:List Oper} {o:Oper} {a:Act} {Q:Exit→Act→World→Prop}
theorem event_run{W w1:World}{v:Value}(hgd:o.guard=none)(hrun:(execOp a.eval o).run P W= .ok (.value v) w1)(h:wpList P ops Q rest (a.put o.dst v) w1):wpList P ops Q (o::rest) a W:=by
 refine wpList_plain hgd fun K hK=>?_
 unfold Oper.wp
 rw[hrun]
 exact hK _ _ h
variable {α:Type}
theorem R_lit(d:Kd α){w0 W:World}(base e:Nat)(hgd:o.guard=none){N:Tmp}(_hd:o.dst=some N){xs:List α}{inner:List Value}{ok okp:Nat→Prop}
 (hrun:(execOp a.eval o).run P W= .ok (.value (.slice (some ⟨W.heap.size,0,none⟩) xs.length xs.length)) (W.alloc (.cells inner.toArray e)))
 (hrep:dm (d.M W base okp) d.sz xs inner)(hok:∀k,okp k→ok k)(hfresh:ok W.heap.size)(HB:Below base w0 W)(hbase:base≤W.heap.size)(hm:xs.length≤9223372036854775807)
 (h:∀v1 w1,d.R e w1 base ok v1 xs→Below base w0 w1→W.grownBy w1 none→(∃b,v1.ownBlock=some b∧W.heap.size≤b)→wpList P ops Q rest (a.put o.dst v1) w1):wpList P ops Q (o::rest) a W:=by
 refine event_run hgd hrun (h _ _ ⟨fun k hk=>?_,inner,?_,?_⟩ (HB.alloc hbase _) (World.grownBy_alloc W _ none) ⟨W.heap.size,by simp[Value.ownBlock],Nat.le_refl _⟩)
 ·have:W.heap.size=k:=by simpa [Value.ownBlock]using hk
  subst this
  exact hfresh
 ·have h2:=World.ownsRow_lit (base:=base) (e:=e) (size:=d.sz) W inner.toArray xs.length hbase (by simpa [maxLen]using hm) (by simpa using hrep.1)
  simpa using h2
 ·refine hrep.imp_ (fun p c hp=>d.M_mono (fun k hk=>⟨hok k hk.1,fun he=>?_⟩) (M_below (d.M_bound hp) (eY (Below.refl _ _) _)))
  have h3:k=W.heap.size:=by simpa [Value.ownBlock]using he
  have:=hk.2.2.1
  omega
theorem reps_made{α:Type}{R:α→List Value→Prop}{z:Value}{size:Nat}{z0:α}(hz:z.cells.size=size)(hs:0<size)(h0:R z0 z.cells.toList)(m:Nat):dm R size (List.replicate m z0) (madeCells z.cells (m*size)).toList:=by
 refine⟨by simp[size_madeCells],fun j p hj=>?_⟩
 obtain⟨hjl,hp⟩:=List.getElem?_eq_some_iff.1 hj
 have hjm:j<m:=by simpa using hjl
 have hp':z0=p:=by simpa using hp
 subst hp'
 have hle:j*size+size≤m*size:=by rw[←Nat.succ_mul];exact Nat.mul_le_mul_right _ hjm
 have:((madeCells z.cells (m*size)).toList.drop (j*size)).take size=z.cells.toList:=by
  apply List.ext_getElem
  ·simp[size_madeCells,hz]
   omega
  ·intro i h1 h2
   have hi:i<size:=by rw[Array.length_toList,hz]at h2;exact h2
   have hmod:(j*size+i)%size=i:=by
    rw[Nat.mul_comm,Nat.mul_add_mod]
    exact Nat.mod_eq_of_lt hi
   simp[madeCells,hz,hmod]
   rw[getElem!_pos z.cells i (by omega)]
 rw[this]
 exact h0
theorem R_make(d:Kd α){w0 W:World}(base e:Nat)(hgd:o.guard=none){N:Tmp}(hd:o.dst=some N)(t:TypeId)(x y:Operand)(ho:o.op= .makeSlice t x y)(n:Int)(hx:a.eval x= .int .i64 n)(hy:a.eval y= .int .i64 n)
 (ht:P.underlying t=some (.slice e))(z:Value)(bytes:Nat)(hinfo:(P.info? e).map (fun i=>(i.zero,i.size,i.bytes))=some (some z,d.sz,bytes))(hz:z.cells.size=d.sz)(hs0:0<d.sz)(hb0:0<bytes)
 (z0:α){ok okp:Nat→Prop}(hzero:d.M W base okp z0 z.cells.toList)(hok:∀k,okp k→ok k)(hfresh:ok W.heap.size)(h0:0≤n)(hl:n.toNat*bytes≤281474976710656)(HB:Below base w0 W)(hbase:base≤W.heap.size)
 (h:∀v1 w1,d.R e w1 base ok v1 (List.replicate n.toNat z0)→Below base w0 w1→W.grownBy w1 none→(∃b,v1.ownBlock=some b∧W.heap.size≤b)→wpList P ops Q rest (a.put o.dst v1) w1):wpList P ops Q (o::rest) a W:=by
 obtain⟨m,rfl⟩:=Int.eq_ofNat_of_zero_le h0
 simp only[Int.toNat_natCast]at hl h
 obtain⟨i0,hi,hzz⟩:=Option.map_eq_some_iff.1 hinfo
 simp only[Prod.mk.injEq]at hzz
 obtain⟨hz0,hz1,hz2⟩:=hzz
 have hm:m≤281474976710656:=Nat.le_trans (Nat.le_mul_of_pos_right _ hb0) hl
 have hr:=run_make (P:=P) W t e i0 z ht hi hz0 .i64 .i64 (m:Int) (m:Int) (by omega) (by omega)
  (by
   have h3:((i0.bytes*m:Nat):Int)≤281474976710656:=by rw[hz2,Nat.mul_comm];omega
   rwa[Int.natCast_mul]at h3) (by omega)
 simp only[Int.toNat_natCast]at hr
 rw[hz1]at hr
 refine R_lit d base e hgd hd (xs:=List.replicate m z0) (inner:=(madeCells z.cells (m*d.sz)).toList) (okp:=okp) (ok:=ok) ?_ (reps_made hz hs0 hzero m) hok hfresh HB hbase (by simp;omega) h
 simp[execOp,ho,hx,hy,hr]
end
end Kd
theorem YG{w:World}{base n m c size:Nat}{e:TypeId}{A:Option Addr}{xs:List Value}(h:w.ownsRow base e size (.slice A n c) n xs)(hm:m≤n):w.ownsRow base e size (.slice A m c) m (xs.take (m*size)):=by
 obtain⟨h1,h2⟩:=h
 refine⟨by rw[List.length_take,h1];exact Nat.min_eq_left (Nat.mul_le_mul_right _ hm),?_⟩
 rcases h2 with⟨he,h0⟩|⟨g,cap,cur,he,hb,hh,hnc,hcm,hcs,ht⟩
 ·injection he with ha _ hc
  subst ha;subst hc
  exact .inl ⟨by rw[show m=0 by omega],by omega⟩
 ·injection he with ha _ hc
  subst ha;subst hc
  refine .inr ⟨g,c,cur,rfl,hb,hh,by omega,hcm,hcs,?_⟩
  rw[←ht,List.take_take,Nat.min_eq_left (Nat.mul_le_mul_right _ hm)]
section
variable {P:Program}
theorem BA(t e:TypeId)(kh:IntKind){i:TypeInfo}(ht:P.underlying t=some (.slice e))(hi:P.info? e=some i)(A:Option Addr)(n c:Nat)(j:Int)(h0:0≤j)(hm:j≤n)(hc:n≤c):
 ∀W:World,(Instr.slice t (.slice A n c) none (some (.int kh j)) none).run P W= .ok (.slice A j.toNat c) W:=by
 intro W
 have hel:P.elem t=e:=by simp[Program.elem,ht]
 have hu:P.underlying t=some (.slice (P.elem t)):=by rw[hel];exact ht
 have ha:(A.map fun x=>x.add 0)=A:=by cases A<;>simp[Addr.add]
 rw[run_slice_h W t A n c hu kh j h0 (by omega),hel]
 simp[sizeOf,typeInfo,hi,sliced,Result.andThen,ha]
theorem MH(t e:TypeId)(kl:IntKind){i:TypeInfo}(ht:P.underlying t=some (.slice e))(hi:P.info? e=some i)(size:Nat)(hsz:i.size=size)(A:Option Addr)(n c:Nat)(j:Int)(h0:0≤j)(hm:j≤n):
 ∀W:World,(Instr.slice t (.slice A n c) (some (.int kl j)) none none).run P W= .ok (.slice (if c=j.toNat then A else A.map (·.add (j.toNat*size))) (n-j.toNat) (c-j.toNat)) W:=by
 intro W
 have hel:P.elem t=e:=by simp[Program.elem,ht]
 have hu:P.underlying t=some (.slice (P.elem t)):=by rw[hel];exact ht
 rw[run_slice_l W t A n c hu kl j h0 hm,hel]
 simp[sizeOf,typeInfo,hi,hsz,sliced,Result.andThen]
end
def Fs(w:World)(base:Nat)(e:TypeId)(size:Nat)(v:Value)(n:Nat)(xs:List Value):Prop:=
 xs.length=n*size∧
 ((n=0∧∃A,v= .slice A 0 0∧∀a,A=some a→base≤a.block∧∃cur,w.heap[a.block]?=some (.cells cur e (0,0)))∨
  ∃g off cap cur,v= .slice (some ⟨g,off*size,none⟩) n cap∧base≤g∧w.heap[g]?=some (.cells cur e (0,0))∧n≤cap∧off+cap≤maxLen∧cur.size=(off+cap)*size∧(cur.toList.drop (off*size)).take (n*size)=xs)
section
variable {w w1:World} {base n size:Nat} {e:TypeId} {v:Value} {xs:List Value}
theorem YH(h:w.ownsRow base e size v n xs):Fs w base e size v n xs:=by
 obtain⟨h1,h2⟩:=h
 refine⟨h1,?_⟩
 rcases h2 with⟨rfl,h0⟩|⟨g,cap,cur,rfl,hb,hh,hnc,hcm,hcs,ht⟩
 ·exact .inl ⟨h0,none,rfl,fun a ha=>by cases ha⟩
 ·exact .inr ⟨g,0,cap,cur,by rw[Nat.zero_mul],hb,hh,hnc,by rw[Nat.zero_add];exact hcm,by rw[Nat.zero_add];exact hcs,by rw[Nat.zero_mul,List.drop_zero];exact ht⟩
theorem aed(h:Fs w base e size v n xs)(hm:∀k,v.ownBlock=some k→w1.heap[k]?=w.heap[k]?):Fs w1 base e size v n xs:=by
 obtain⟨h1,h2⟩:=h
 refine⟨h1,?_⟩
 rcases h2 with⟨h0,A,rfl,hA⟩|⟨g,off,cap,cur,rfl,hg,hh,r⟩
 ·refine .inl ⟨h0,A,rfl,fun a ha=>?_⟩
  obtain⟨hb,cur,hc⟩:=hA a ha
  subst ha
  exact⟨hb,cur,(hm a.block (by simp[Value.ownBlock])).trans hc⟩
 ·exact .inr ⟨g,off,cap,cur,rfl,hg,(hm g (by simp[Value.ownBlock])).trans hh,r⟩
theorem TH(h:Fs w base e size v n xs)(k:Nat)(hk:v.ownBlock=some k):base≤k∧∃cells,w.heap[k]?=some (.cells cells e (0,0)):=by
 rcases h.2 with⟨_,A,rfl,hA⟩|⟨g,off,cap,cur,rfl,hg,hh,r⟩
 ·cases A with
  |none=>simp[Value.ownBlock]at hk
  |some a=>
   have:a.block=k:=by simpa [Value.ownBlock]using hk
   subst this
   exact hA a rfl
 ·have:g=k:=by simpa [Value.ownBlock]using hk
  subst this
  exact⟨hg,cur,hh⟩
theorem q_lt(h:Fs w base e size v n xs)(k:Nat)(hk:v.ownBlock=some k):k<w.heap.size:=by
 obtain⟨_,cells,hc⟩:=TH h k hk
 exact(Array.getElem?_eq_some_iff.1 hc).1
theorem TI(h:Fs w base e size v n xs):∃A c,v= .slice A n c∧n≤c:=by
 rcases h.2 with⟨h0,A,rfl,_⟩|⟨g,off,cap,cur,rfl,hg,hh,hnc,r⟩
 ·exact⟨A,0,by rw[h0],by omega⟩
 ·exact⟨_,cap,rfl,hnc⟩
theorem ako(h:Fs w base e size v n xs):n≤9223372036854775807:=by
 rcases h.2 with⟨h0,_⟩|⟨g,off,cap,cur,rfl,hg,hh,hnc,hm,r⟩
 ·omega
 ·simp only[maxLen]at hm
  omega
theorem YI(g o j:Nat):(⟨g,o,none⟩:Addr).add j=⟨g,o+j,none⟩:=by unfold Addr.add;split<;>simp_all
theorem a4e{A:Option Addr}{c:Nat}(h:Fs w base e size (.slice A n c) n xs)(hn:0<n):∃ad,A=some ad∧∀j u,xs[j]?=some u→w.cell? (ad.add j)=some u:=by
 rcases h.2 with⟨h0,_⟩|⟨g,off,cap,cur,he,hg,hh,hnc,hm,hcs,ht⟩
 ·omega
 ·injection he with ha _ hc
  subst ha
  refine⟨_,rfl,fun j u hu=>?_⟩
  rw[YI,cell_of_row w g _ cur e (0,0) hh]
  rw[←ht,List.getElem?_take]at hu
  split at hu
  ·rw[List.getElem?_drop]at hu
   rw[←Array.getElem?_toList]
   exact hu
  ·cases hu
theorem aee{A:Option Addr}{c k:Nat}(h:Fs w base e size (.slice A n c) n xs)(hk:k≤n):Fs w base e size (.slice (if c=k then A else A.map (·.add (k*size))) (n-k) (c-k)) (n-k) (xs.drop (k*size)):=by
 obtain⟨h1,h2⟩:=h
 refine⟨by rw[List.length_drop,h1,Nat.sub_mul],?_⟩
 rcases h2 with⟨h0,A',he,hA⟩|⟨g,off,cap,cur,he,hb,hh,hnc,hcm,hcs,ht⟩
 ·injection he with ha hb hc
  subst ha;subst hc
  have hk0:k=0:=by omega
  subst hk0
  exact .inl ⟨by omega,A,by rw[if_pos rfl,h0],hA⟩
 ·injection he with ha _ hc
  subst ha;subst hc
  by_cases hck:c=k
  ·rw[if_pos hck]
   refine .inl ⟨by omega,some ⟨g,off*size,none⟩,?_,fun a ha=>?_⟩
   ·rw[show n-k=0 by omega,show c-k=0 by omega]
   ·injection ha with ha
    subst ha
    exact⟨hb,cur,hh⟩
  ·rw[if_neg hck]
   refine .inr ⟨g,off+k,c-k,cur,?_,hb,hh,by omega,by omega,by rw[hcs];congr 1;omega,?_⟩
   ·rw[Option.map_some,YI,Nat.add_mul]
   ·rw[←ht,List.drop_take,List.drop_drop,Nat.add_mul,Nat.sub_mul]
end
namespace Kd
theorem reps_take{α:Type}{R:α→List Value→Prop}{size m:Nat}{ps:List α}{cs:List Value}(h:dm R size ps cs)(hm:m≤ps.length):dm R size (ps.take m) (cs.take (m*size)):=by
 refine⟨by rw[List.length_take,List.length_take,h.1,Nat.min_eq_left hm,Nat.min_eq_left (Nat.mul_le_mul_right _ hm)],fun j p hj=>?_⟩
 rw[List.getElem?_take]at hj
 split at hj
 ·rename_i hjm
  have:=h.2 j p hj
  have hle:j*size+size≤m*size:=by rw[←Nat.succ_mul];exact Nat.mul_le_mul_right _ hjm
  rw[List.drop_take,List.take_take,Nat.min_eq_left (by omega)]
  exact this
 ·cases hj
theorem reps_drop{α:Type}{R:α→List Value→Prop}{size m:Nat}{ps:List α}{cs:List Value}(h:dm R size ps cs):dm R size (ps.drop m) (cs.drop (m*size)):=by
 refine⟨by rw[List.length_drop,List.length_drop,h.1,Nat.sub_mul],fun j p hj=>?_⟩
 rw[List.getElem?_drop]at hj
 have:=h.2 (m+j) p hj
 rw[List.drop_drop,←Nat.add_mul]
 exact this
theorem R_take{α:Type}{d:Kd α}{e m n c:Nat}{w:World}{base:Nat}{ok:Nat→Prop}{A:Option Addr}{xs:List α}(h:d.R e w base ok (.slice A n c) xs)(hm:m≤xs.length):d.R e w base ok (.slice A m c) (xs.take m):=by
 obtain⟨h0,inner,ho,hr⟩:=h
 have hn:n=xs.length:=by
  obtain⟨A',c',he⟩:=Xd ho
  injection he
 subst hn
 have hb:∀x y:Nat,(Value.slice A x c).ownBlock=(Value.slice A y c).ownBlock:=by
  intro x y
  cases A<;>rfl
 refine⟨fun k hk=>h0 k (by rw[hb _ m];exact hk),inner.take (m*d.sz),?_,?_⟩
 ·rw[List.length_take,Nat.min_eq_left hm]
  exact YG ho hm
 ·rw[hb m xs.length]
  exact reps_take hr hm
def Q{α:Type}(d:Kd α)(e:Nat)(w:World)(base:Nat)(ok:Nat→Prop)(v:Value)(xs:List α):Prop:=
 (∀k,v.ownBlock=some k→ok k)∧∃inner,Fs w base e d.sz v xs.length inner∧dm (d.M w base (fun k=>ok k∧some k≠v.ownBlock)) d.sz xs inner
section
variable {α:Type} {d:Kd α} {e:Nat} {w w1 W:World} {base:Nat} {ok ok':Nat→Prop} {v:Value} {xs:List α}
theorem Q_of_R(h:d.R e w base ok v xs):d.Q e w base ok v xs:=by
 obtain⟨h0,inner,ho,hr⟩:=h
 exact⟨h0,inner,YH ho,hr⟩
theorem Q_nil(d:Kd α)(e:Nat)(w:World)(base:Nat)(ok:Nat→Prop):d.Q e w base ok (.slice none 0 0) []:=Q_of_R (R_nil d e w base ok)
theorem Q_mono(h:d.Q e w base ok v xs)(hok:∀k,ok k→ok' k):d.Q e w base ok' v xs:=by
 obtain⟨h0,inner,ho,hr⟩:=h
 exact⟨fun k hk=>hok k (h0 k hk),inner,ho,hr.imp_ (fun _ _ hp=>d.M_mono (fun k hk=>⟨hok k hk.1,hk.2⟩) hp)⟩
theorem Q_bound(h:d.Q e w base ok v xs):d.Q e w base (fun k=>ok k∧base≤k∧k<w.heap.size∧∃q,q∈e::d.E∧∃cells,w.heap[k]?=some (.cells cells q (0,0))) v xs:=by
 obtain⟨h0,inner,ho,hr⟩:=h
 refine⟨fun k hk=>?_,inner,ho,hr.imp_ (fun _ _ hp=>d.M_mono (fun k hk=>?_) (d.M_bound hp))⟩
 ·obtain⟨hb,cells,hc⟩:=TH ho k hk
  exact⟨h0 k hk,hb,q_lt ho k hk,e,List.mem_cons_self,cells,hc⟩
 ·obtain⟨⟨h1,h2⟩,h3,h4,q,hq,hc⟩:=hk
  exact⟨⟨h1,h3,h4,q,List.mem_cons_of_mem _ hq,hc⟩,h2⟩
theorem Q_move(h:d.Q e w base ok v xs)(hm:∀k,ok k→w1.heap[k]?=w.heap[k]?):d.Q e w1 base ok v xs:=by
 obtain⟨h0,inner,ho,hr⟩:=h
 exact⟨h0,inner,aed ho (fun k hk=>hm k (h0 k hk)),hr.imp_ (fun _ _ hp=>d.M_move (fun k hk=>hm k hk.1) hp)⟩
theorem Q_step(h:d.Q e w base ok v xs)(hm:∀k,ok k→k<w.heap.size→w1.heap[k]?=w.heap[k]?):d.Q e w1 base ok v xs:=Q_mono (Q_move (Q_bound h) (fun k hk=>hm k hk.1 hk.2.2.1)) (fun _ hk=>hk.1)
theorem Q_below(h:d.Q e w base ok v xs)(hb:Below w.heap.size w w1):d.Q e w1 base ok v xs:=Q_step h (fun k _ hk=>hb.block k hk)
theorem Q_alloc(h:d.Q e w base ok v xs)(o:Obj):d.Q e (w.alloc o) base ok v xs:=Q_below h (eY (Below.refl _ _) o)
theorem Q_drew(h:d.Q e w base ok v xs):d.Q e w.drew base ok v xs:=Q_below h (qF (Below.refl _ _))
theorem Q_drewN(h:d.Q e w base ok v xs)(m:Nat):d.Q e (w.drewN m) base ok v xs:=Q_below h (dY (Below.refl _ _) m)
theorem Q_slice(h:d.Q e w base ok v xs):∃A c,v= .slice A xs.length c∧xs.length≤c:=by
 obtain⟨_,inner,ho,_⟩:=h
 exact TI ho
theorem Q_reads'{A:Option Addr}{n c:Nat}(h:d.Q e w base ok (.slice A n c) xs):n=xs.length∧n≤c∧d.C w A xs.length xs:=by
 obtain⟨_,inner,ho,hr⟩:=h
 obtain⟨A',c',he,hl⟩:=TI ho
 injection he with h1 h2 h3
 subst h1;subst h2;subst h3
 refine⟨rfl,hl,rfl,ako ho,fun hp=>?_⟩
 obtain⟨ad,ha,hc⟩:=a4e ho hp
 refine⟨ad,ha,fun j p hj=>⟨(inner.drop (j*d.sz)).take d.sz,?_,d.K_of_M (hr.2 j p hj),fun i u hu=>?_⟩⟩
 ·have hjl:=(List.getElem?_eq_some_iff.1 hj).1
  have h1:j*d.sz+d.sz≤inner.length:=by rw[hr.1,←Nat.succ_mul];exact Nat.mul_le_mul_right _ hjl
  rw[List.length_take,List.length_drop]
  omega
 ·refine hc _ u ?_
  rw[List.getElem?_take]at hu
  split at hu
  ·rw[List.getElem?_drop]at hu
   exact hu
  ·cases hu
theorem Q_drop{A:Option Addr}{k n c:Nat}(h:d.Q e w base ok (.slice A n c) xs)(hk:k≤xs.length):d.Q e w base ok (.slice (if c=k then A else A.map (·.add (k*d.sz))) (n-k) (c-k)) (xs.drop k):=by
 have hn:n=xs.length:=(Q_reads' h).1
 subst hn
 obtain⟨h0,inner,ho,hr⟩:=h
 have hb:(Value.slice (if c=k then A else A.map (·.add (k*d.sz))) (xs.length-k) (c-k)).ownBlock=(Value.slice A xs.length c).ownBlock:=by
  split
  ·cases A<;>rfl
  ·cases A with
   |none=>rfl
   |some a=>simp[Value.ownBlock];unfold Addr.add;split<;>rfl
 refine⟨fun j hj=>h0 j (by rw[←hb];exact hj),inner.drop (k*d.sz),?_,?_⟩
 ·rw[List.length_drop]
  exact aee ho hk
 ·rw[hb]
  exact reps_drop hr
end
end Kd
namespace Kd
section
variable {α:Type} {d:Kd α} {e e':Nat} {w w1 W:World} {base:Nat} {ok:Nat→Prop} {u v:Value} {xs:List α}
theorem R_elder'(hu:d.R e W base ok u xs)(hbase:∀k,v.ownBlock=some k→W.heap.size≤k)(hb:Below W.heap.size W w1):d.R e w1 base (fun k=>ok k∧some k≠v.ownBlock) u xs:=
 R_mono (R_move (R_bound hu) (fun k hk=>hb.block k hk.2.2.1)) (fun k hk=>⟨hk.1,fun he=>by have:=hbase k he.symm;have:=hk.2.2.1;omega⟩)
theorem R_new'(h:d.R e w1 W.heap.size ok v xs)(hlt:∀k,u.ownBlock=some k→k<W.heap.size):d.R e w1 W.heap.size (fun k=>ok k∧some k≠u.ownBlock) v xs:=
 R_mono (R_bound h) (fun k hk=>⟨hk.1,fun he=>by have:=hlt k he.symm;have:=hk.2.1;omega⟩)
theorem fresh'(hlt:∀k,u.ownBlock=some k→k<W.heap.size):∀k,W.heap.size≤k→some k≠u.ownBlock:=fun k hk he=>by have:=hlt k he.symm;omega
end
end Kd
theorem tJ{n c g:Nat}{A:Option Addr}(hne:some g≠(Value.slice A n c).ownBlock):∀ad,A=some ad→0<n→ad.block≠g:=by
 rintro ad rfl _ rfl
 exact hne (by simp[Value.ownBlock])
theorem Ej{α:Type}(a seg:List α)(o:Nat)(h:o+seg.length≤a.length)(q:Nat):
 (a.take o++seg++a.drop (o+seg.length))[q]?=if q<o then a[q]? else if q<o+seg.length then seg[q-o]? else a[q]?:=by
 have hl:(a.take o).length=o:=by rw[List.length_take];omega
 rw[List.append_assoc]
 by_cases h1:q<o
 ·rw[if_pos h1,List.getElem?_append_left (by omega),List.getElem?_take,if_pos h1]
 ·rw[if_neg h1,List.getElem?_append_right (by omega),hl]
  by_cases h2:q<o+seg.length
  ·rw[if_pos h2,List.getElem?_append_left (by omega)]
  ·rw[if_neg h2,List.getElem?_append_right (by omega),List.getElem?_drop]
   congr 1
   omega
namespace Kd
theorem reps_append{α:Type}{R:α→List Value→Prop}{size:Nat}{ps qs:List α}{cs ds:List Value}(h:dm R size ps cs)(h':dm R size qs ds):dm R size (ps++qs) (cs++ds):=by
 refine⟨by rw[List.length_append,List.length_append,h.1,h'.1,Nat.add_mul],fun j p hj=>?_⟩
 rcases Nat.lt_or_ge j ps.length with hlt|hge
 ·rw[List.getElem?_append_left hlt]at hj
  have hle:j*size+size≤cs.length:=by rw[h.1,←Nat.succ_mul];exact Nat.mul_le_mul_right _ hlt
  rw[List.drop_append_of_le_length (by omega),List.take_append_of_le_length (by rw[List.length_drop];omega)]
  exact h.2 j p hj
 ·rw[List.getElem?_append_right hge]at hj
  have h2:=h'.2 (j-ps.length) p hj
  have hle:ps.length*size≤j*size:=Nat.mul_le_mul_right _ hge
  rw[List.drop_append,List.drop_eq_nil_of_le (by rw[h.1];exact hle),List.nil_append,h.1,←Nat.sub_mul]
  exact h2
section
variable {P:Program} {ops:Array Oper} {rest:List Oper} {o:Oper} {a:Act} {Q:Exit→Act→World→Prop} {α:Type}
theorem R_append_rows(d:Kd α){Rr:α→List Value→Prop}{w0 W:World}(base:Nat)(hgd:o.guard=none)(s x:Operand)(t e:TypeId)(z:Value)(bytes:Nat)
 (ho:o.op= .call {callee:=.builtin .append,args:=#[s,x],argTypes:=#[t,t]})
 (ht:P.underlying t=some (.slice e))(hinfo:(P.info? e).map (fun i=>(i.zero,i.size,i.bytes))=some (some z,d.sz,bytes))(hz:z.cells.size=d.sz)(hs0:0<d.sz)(hb0:0<bytes)
 (v:Value)(xs ys:List α)(A:Option Addr)(m c:Nat)(ok okp:Nat→Prop)(hs:a.eval s=v)(hx:a.eval x= .slice A m c)
 (HO:d.R e W base ok v xs)(HR:jH Rr d.sz W A m ys)(hKM:∀x cs,Rr x cs→d.M W base okp x cs)(hokp:∀k,okp k→ok k∧some k≠v.ownBlock)(hfresh:∀k,W.heap.size≤k→ok k)
 (HB:Below base w0 W)(hbase:base≤W.heap.size)(hl:(xs.length+m)*bytes≤140737488355328)
 (h:∀v1 w1,d.R e w1 base ok v1 (xs++ys)→Below base w0 w1→W.grownBy w1 v.ownBlock→(v1.ownBlock=v.ownBlock∨∃b,v1.ownBlock=some b∧W.heap.size≤b)→wpList P ops Q rest (a.put o.dst v1) w1):
 wpList P ops Q (o::rest) a W:=by
 obtain⟨i0,hi,hzz⟩:=Option.map_eq_some_iff.1 hinfo
 simp only[Prod.mk.injEq]at hzz
 obtain⟨hz0,hz1,hz2⟩:=hzz
 have hm:ys.length=m:=HR.1
 have hlen:xs.length+m≤140737488355328:=Nat.le_trans (Nat.le_mul_of_pos_right _ hb0) hl
 obtain⟨hok,inner,hown,hr⟩:=HO
 have hrun:∃v1 w1,(Builtin.append_ #[t,t] o.type #[v,.slice A m c]).run P W= .ok v1 w1∧d.R e w1 base ok v1 (xs++ys)∧W.grownBy w1 v.ownBlock∧(v1.ownBlock=v.ownBlock∨∃b,v1.ownBlock=some b∧W.heap.size≤b):=by
  rcases A with _|ad
  ·have h0:m=0:=by
    rcases Nat.eq_zero_or_pos m with h0|h0
    ·exact h0
    ·obtain⟨ad,h,_⟩:=HR.2.2 h0
     cases h
   subst h0
   obtain rfl:ys=[]:=List.eq_nil_of_length_eq_zero hm
   refine⟨v,W,?_,by rw[List.append_nil];exact⟨hok,inner,hown,hr⟩,World.grownBy.refl W _,.inl rfl⟩
   rcases hown.2 with⟨rfl,hn⟩|⟨g,cap,cur,rfl,_,_,hnc,_⟩
   ·simp[Builtin.append_,run_underlying ht,sizeOf,typeInfo,hi,Builtin.lenOf,Builtin.firstCells]
   ·simp[Builtin.append_,run_underlying ht,sizeOf,typeInfo,hi,Builtin.lenOf,Builtin.firstCells,hnc,storeCells]
  ·obtain⟨news,hnr,hnc⟩:=jH.inner_ HR
   have hnM:dm (d.M W base okp) d.sz ys news:=hnr.imp_ (fun p c hp=>hKM p c hp)
   have hone:∀u∈news,u.oneCell'=true:=by
    intro u hu
    obtain⟨q,hq,rfl⟩:=List.mem_iff_getElem.1 hu
    have hql:q/d.sz<ys.length:=by
     rw[Nat.div_lt_iff_lt_mul hs0]
     rw[←hnM.1]
     exact hq
    have hc:=hnM.2 (q/d.sz) _ (List.getElem?_eq_getElem hql)
    refine d.K_one (d.K_of_M hc) _ ?_
    rw[List.mem_iff_getElem?]
    refine⟨q%d.sz,?_⟩
    rw[List.getElem?_take,if_pos (Nat.mod_lt _ hs0),List.getElem?_drop,Nat.mul_comm,Nat.div_add_mod,List.getElem?_eq_getElem hq]
   obtain⟨v1,w1,hrun,h2,hg,_,hat⟩:=run_append_own_at (P:=P) W base t o.type e i0 z d.sz bytes ht hi hz0 hz1 hz2 hz hs0 v xs.length inner hown ad m c news (by rw[hnM.1,hm]) hnc hone (by simp only[maxLen];omega) hl hbase
   have hat':v1.ownBlock=v.ownBlock∨∃b,v1.ownBlock=some b∧W.heap.size≤b:=by
    rcases hat with hat|hat
    ·exact .inl hat
    ·exact .inr ⟨_,hat,Nat.le_refl _⟩
   have hne:∀k,some k≠v.ownBlock→k<W.heap.size→some k≠v1.ownBlock:=by
    intro k hk hlt
    rcases hat' with hat|⟨b,hb,hle⟩
    ·rw[hat];exact hk
    ·rw[hb]
     intro he
     injection he with he
     omega
   have step:∀{q:α}{c:List Value}{o:Nat→Prop},d.M W base o q c→(∀k,o k→ok k∧some k≠v.ownBlock)→d.M w1 base (fun k=>ok k∧some k≠v1.ownBlock) q c:=by
    intro q c o hq ho
    have h1:=d.M_move (w1:=w1) (fun k hk=>hg.block k hk.2.2.1 (ho k hk.1).2) (d.M_bound hq)
    exact d.M_mono (fun k hk=>⟨(ho k hk.1).1,hne k (ho k hk.1).2 hk.2.2.1⟩) h1
   refine⟨v1,w1,hrun,⟨fun k hk=>?_,inner++news,by rw[List.length_append,hm];exact h2,reps_append (hr.imp_ (fun _ _ hq=>step hq (fun _ hk=>hk))) (hnM.imp_ (fun _ _ hq=>step hq hokp))⟩,hg,hat'⟩
   rcases hat' with hat|⟨b,hb,hle⟩
   ·exact hok k (hat▸hk)
   ·rw[hb]at hk
    injection hk with hk
    exact hfresh k (by omega)
 obtain⟨v1,w1,hr1,h1,hg,hat⟩:=hrun
 refine wpList_plain hgd fun K hK=>?_
 unfold Oper.wp execOp
 simp only[ho,resolve,invoke,builtin,Sem.run_bind,Sem.run_pure,Result.andThen_ok,List.map_toArray,List.map_cons,List.map_nil,hs,hx,hr1]
 exact hK _ _ (h v1 w1 h1 (HB.grown hg hbase (tH hown)) hg hat)
end
end Kd
theorem add_add(a:Addr)(i j:Nat):(a.add i).add j=a.add (i+j):=by
 unfold Addr.add
 by_cases h1:i=0<;>by_cases h2:j=0<;>simp[h1,h2,Nat.add_assoc]
namespace Kd
section
variable {α:Type} {k:Kd α} {w:World} {A:Option Addr} {xs:List α} {m c:Nat}
theorem C_take(h:k.C w A xs.length xs)(hm:m≤xs.length):k.C w A (xs.take m).length (xs.take m):=by
 have hl:(xs.take m).length=m:=by rw[List.length_take];omega
 refine⟨rfl,by rw[hl];have:=h.2.1;omega,fun hp=>?_⟩
 obtain⟨ad,e,hc⟩:=h.2.2 (by omega)
 refine⟨ad,e,fun j p hj=>hc j p ?_⟩
 rw[List.getElem?_take]at hj
 split at hj
 ·exact hj
 ·cases hj
theorem C_drop(h:k.C w A xs.length xs)(hm:m≤xs.length)(hc:xs.length≤c):k.C w (if c=m then A else A.map (·.add (m*k.sz))) (xs.drop m).length (xs.drop m):=by
 have hl:(xs.drop m).length=xs.length-m:=List.length_drop
 refine⟨rfl,by rw[hl];have:=h.2.1;omega,fun hp=>?_⟩
 rw[hl]at hp
 obtain⟨ad,rfl,hcell⟩:=h.2.2 (by omega)
 rw[if_neg (by omega)]
 refine⟨ad.add (m*k.sz),rfl,fun j p hj=>?_⟩
 rw[List.getElem?_drop]at hj
 obtain⟨cs,h1,h2,h3⟩:=hcell (m+j) p hj
 refine⟨cs,h1,h2,fun i u hu=>?_⟩
 rw[add_add,show m*k.sz+(j*k.sz+i)=(m+j)*k.sz+i by rw[Nat.add_mul];omega]
 exact h3 i u hu
theorem C_mid{lo hi:Nat}(h:k.C w A xs.length xs)(h1:lo≤hi)(h2:hi≤xs.length)(hc:xs.length≤c):k.C w (if c=lo then A else A.map (·.add (lo*k.sz))) ((xs.take hi).drop lo).length ((xs.take hi).drop lo):=by
 have hl:(xs.take hi).length=hi:=by rw[List.length_take];omega
 exact C_drop (C_take h h2) (by omega) (by omega)
end
end Kd
section
variable {P:Program}
theorem a4f(t e:TypeId)(kl kh:IntKind){i:TypeInfo}(ht:P.underlying t=some (.slice e))(hi:P.info? e=some i)(size:Nat)(hsz:i.size=size)(A:Option Addr)(n c:Nat)(lo hi':Int)(h0:0≤lo)(h1:lo≤hi')(h2:hi'≤n)(hc:n≤c):
 ∀W:World,(Instr.slice t (.slice A n c) (some (.int kl lo)) (some (.int kh hi')) none).run P W= .ok (.slice (if c=lo.toNat then A else A.map (·.add (lo.toNat*size))) (hi'.toNat-lo.toNat) (c-lo.toNat)) W:=by
 intro W
 have hel:P.elem t=e:=by simp[Program.elem,ht]
 have hu:P.underlying t=some (.slice (P.elem t)):=by rw[hel];exact ht
 rw[run_slice_lh W t A n c hu kl kh lo hi' h0 h1 (by omega),hel]
 simp[sizeOf,typeInfo,hi,hsz,sliced,Result.andThen]
end
theorem aJ{w W:World}(h:Below w.heap.size w W):w.heap.size≤W.heap.size:=h.size
theorem ai{w W w2:World}(h:Below w.heap.size w W)(k:Below W.heap.size W w2):Below w.heap.size w w2:=QG h h.size k
theorem gK.nil(W:World)(k:IntKind):gK W k none ([]:List Int).length []:=⟨rfl,by simp,fun h=>absurd h (Nat.lt_irrefl 0)⟩
theorem gK.drewN{W:World}{k:IntKind}{A:Option Addr}{n:Nat}{xs:List Int}(h:gK W k A n xs)(m:Nat):gK (W.drewN m) k A n xs:=h
theorem gK.ofRow{k:IntKind}{w:World}{a:Option Addr}{len cap:Nat}{zs:List Int}(h:(a=none∧len=0∧cap=0∧zs=[])∨∃x,a=some x∧len≤cap∧cap≤maxLen∧zs.length=cap∧(∀i,i<zs.length→w.cell? (x.add i)=some (.int k (zs.getD i 0)))∧∀n∈zs,(Lit.int k n).wf=true):
 ∃l:List Int,len=l.length∧gK w k a l.length l∧l.length≤maxLen∧∀x∈l,(Lit.int k x).wf=true:=by
 rcases h with⟨rfl,rfl,rfl,rfl⟩|⟨x,rfl,hl,hm,hz,hc,hw⟩
 ·exact⟨[],rfl,gK.nil _ _,Nat.zero_le _,fun x hx=>by simp at hx⟩
 ·have e:(zs.take len).length=len:=by simp;omega
  have hm':len≤maxLen:=Nat.le_trans hl hm
  refine⟨zs.take len,e.symm,⟨rfl,by rw[e];simpa [maxLen]using hm',fun _=>⟨x,rfl,fun j hj=>?_⟩⟩,by rw[e];exact hm',fun y hy=>hw y (List.mem_of_mem_take hy)⟩
  rw[e]at hj
  rw[hc j (by omega)]
  simp[List.getD,List.getElem?_take,hj]
theorem oJ{w W:World}{g j:Nat}{v:Value}(h:Below w.heap.size w W)(hg:w.heap.size≤g):Below w.heap.size w (W.setCell ⟨g,j,none⟩ v):=h.setCell hg _
theorem QK{w W:World}{g:Nat}{row:Option Nat}(h:ax w W g row)(m:Nat):ax w (W.drewN m) g row:=h
theorem QL{w W:World}{g:Nat}(h:ax w W g none)(o:Obj):ax w (W.alloc o) g none:=h.trans (ax.of_grown (World.grownBy_alloc W o none) g) (.inl rfl)
theorem BB{w W:World}{g:Nat}(h:ax w W g none){a:Addr}{v:Value}(hc:w.cell? a=some v)(hne:a.block≠g):W.cell? a=some v:=by
 have:=h.2 a.block (World.block_lt_of_cell? w a hc) hne (by simp)
 simpa [World.cell?,this]using hc
theorem add_block(a:Addr)(i:Nat):(a.add i).block=a.block:=by unfold Addr.add;split<;>rfl
theorem JC{w0 w w1:World}{B:Nat}(h:Below w0.heap.size w0 w)(hB:w0.heap.size≤B)(k:Below B w w1):Below w0.heap.size w0 w1:=
 h.trans ⟨k.os,k.tape,k.output,k.size,fun i hi=>k.block i (Nat.lt_of_lt_of_le hi hB)⟩
theorem own_base'{w:World}{base:Nat}{e:TypeId}{size n:Nat}{v:Value}{xs:List Value}(h:w.ownsRow base e size v n xs):v.ownBlock=none∨∃b,v.ownBlock=some b∧base≤b:=by
 cases hv:v.ownBlock with
 |none=>exact .inl rfl
 |some b=>exact .inr ⟨b,rfl,tH h b hv⟩
theorem gG{w W:World}{g:Nat}{row:Option Nat}(h:ax w W g row):w.heap.size≤W.heap.size:=h.1
theorem ja.nil{α:Type}(enc:α→Value)(d:α)(W:World):ja enc d W none ([]:List α).length []:=⟨rfl,by simp,fun h=>absurd h (Nat.lt_irrefl 0)⟩
theorem ja.drewN{α:Type}{enc:α→Value}{d:α}{W:World}{A:Option Addr}{n:Nat}{xs:List α}(h:ja enc d W A n xs)(m:Nat):ja enc d (W.drewN m) A n xs:=h
theorem gK.keep{w W:World}{k:IntKind}{A:Option Addr}{n g:Nat}{xs:List Int}(h:gK w k A n xs)(hk:ax w W g none)(hf:∀ad,A=some ad→0<n→ad.block≠g):gK W k A n xs:=
 ⟨h.1,h.2.1,fun hn=>by
  obtain⟨ad,e,hc⟩:=h.2.2 hn
  exact⟨ad,e,fun j hj=>BB hk (hc j hj) (by rw[add_block];exact hf ad e hn)⟩⟩
theorem ja.keep{α:Type}{enc:α→Value}{d:α}{w W:World}{A:Option Addr}{n g:Nat}{xs:List α}(h:ja enc d w A n xs)(hk:ax w W g none)(hf:∀ad,A=some ad→0<n→ad.block≠g):ja enc d W A n xs:=
 ⟨h.1,h.2.1,fun hn=>by
  obtain⟨ad,e,hc⟩:=h.2.2 hn
  exact⟨ad,e,fun j hj=>BB hk (hc j hj) (by rw[add_block];exact hf ad e hn)⟩⟩
theorem cell_far{W:World}{p a:Addr}(h:a.block≠p.block)(u:Value):(W.setCell p u).cell? a=W.cell? a:=by
 have:=Below.heap_setCell W p u a.block h
 simp[World.cell?,this]
theorem TJ{w:World}{g:Nat}{t:TypeId}{cs cs':Array Value}(h:w.heap[g]?=some (.cells cs t (0,0)))(i:Nat)(u:Value)(e:cs.setIfInBounds i u=cs'):(w.setCell ⟨g,i,none⟩ u).heap[g]?=some (.cells cs' t (0,0)):=e▸TF h i u
theorem YJ{w W:World}{g:Nat}{row:Option Nat}(h:ax w W g row){p:Addr}(hp:w.heap.size≤p.block)(u:Value):ax w (W.setCell p u) g row:=
 ⟨by simpa [World.setCell]using h.1,fun i hi hg hr=>(Below.heap_setCell W p u i (by omega)).trans (h.2 i hi hg hr)⟩
theorem gK.ofRowC{k:IntKind}{w:World}{a:Option Addr}{len cap:Nat}{zs:List Int}(h:(a=none∧len=0∧cap=0∧zs=[])∨∃x,a=some x∧len≤cap∧cap≤maxLen∧zs.length=cap∧(∀i,i<zs.length→w.cell? (x.add i)=some (.int k (zs.getD i 0)))∧∀n∈zs,(Lit.int k n).wf=true):
 ∃l:List Int,len=l.length∧gK w k a l.length l∧l.length≤maxLen∧(∀x∈l,(Lit.int k x).wf=true)∧l.length≤cap:=by
 have hl:len≤cap:=by
  rcases h with⟨_,rfl,rfl,_⟩|⟨_,_,h,_⟩
  ·exact Nat.le_refl _
  ·exact h
 obtain⟨l,e,h1,h2,h3⟩:=gK.ofRow h
 exact⟨l,e,h1,h2,h3,e▸hl⟩
theorem dF{base:Nat}{w W:World}(h:Below base w W):Below base w W.drew:=h.drew
theorem Ic{w W:World}{g:Nat}{row:Option Nat}(h:ax w W g row):ax w W.drew g row:=h
namespace Kd
section
variable {α β:Type} {d:Kd α} {d':Kd β} {e e' base base' n:Nat} {ok ok':Nat→Prop} {w W w1 W1:World} {v u:Value} {xs:List α} {ys:List β} {A:Option Addr} {c:Nat}
theorem R_base2(h:d.R e w base ok v xs):v.ownBlock=none∨∃k,v.ownBlock=some k∧base≤k:=by
 obtain⟨inner,ho⟩:=R_own h
 exact own_base' ho
end
end Kd
namespace Kd
section
variable {α:Type} {d:Kd α} {e base g:Nat} {ok:Nat→Prop} {w w1:World} {v:Value} {xs:List α} {o:Obj}
theorem R_elderB(h:d.R e w base ok v xs)(a:Nat)(ha:w.heap.size≤a):d.R e w base (fun k=>ok k∧k≠a) v xs:=R_mono (R_bound h) (fun k hk=>⟨hk.1,by have:=hk.2.2.1;omega⟩)
theorem R_newB(h:d.R e w1 w.heap.size ok v xs)(hb:w.heap[g]?=some o):d.R e w1 w.heap.size (fun k=>ok k∧k≠g) v xs:=R_mono (R_bound h) (fun k hk=>⟨hk.1,by have:=gJ hb;have:=hk.2.1;omega⟩)
theorem freshB(hb:w.heap[g]?=some o):∀k,w.heap.size≤k→k≠g:=fun k hk=>by have:=gJ hb;omega
end
end Kd
section
variable {P:Program} {ops:Array Oper} {rest:List Oper} {o:Oper} {a:Act} {Q:Exit→Act→World→Prop}
theorem Ie{W:World}(hgd:o.guard=none){N:Tmp}(_hd:o.dst=some N){cs:Array Value}{t:TypeId}
 (hrun:(execOp a.eval o).run P W= .ok (.value (.pointer (some ⟨W.heap.size,0,none⟩))) (W.alloc (.cells cs t (0,0))))
 (h:∀g,g=W.heap.size→∀w1,w1.heap[g]?=some (.cells cs t (0,0))→Below W.heap.size W w1→wpList P ops Q rest (a.put o.dst (.pointer (some ⟨g,0,none⟩))) w1):wpList P ops Q (o::rest) a W:=
 Kd.event_run hgd hrun (h _ rfl _ (zB W _) (eY (Below.refl _ _) _))
end
namespace Kd
section
variable {α:Type} {enc:α→Value} {h1:∀x,(enc x).oneCell'=true} {e base g n cap:Nat} {ok:Nat→Prop} {W:World} {xs:List α}
theorem R_celln(d:α)(h:(scalar enc h1).R e W base ok (.slice (some ⟨g,0,none⟩) n cap) xs)(i:Int)(h0:0≤i)(hi:i<n):W.cell? ⟨g,i.toNat,none⟩=some (enc (MG d xs i))∧W.frozen? ⟨g,i.toNat,none⟩=false:=by
 obtain⟨rfl,_⟩:=R_reads' h
 exact R_cell d h i h0 hi
end
end Kd
section
variable {P:Program} {ops:Array Oper} {rest:List Oper} {o:Oper} {a:Act} {Q:Exit→Act→World→Prop}
theorem MI{W w1:World}(hgd:o.guard=none){t:TypeId}{p:Tmp}{v:Operand}(_ho:o.op= .store t (.tmp p) v)(hN:o.dst=none)
 (hrun:(execOp a.eval o).run P W= .ok .skip w1)(h:∀w',w'=w1→wpList P ops Q rest a w'):wpList P ops Q (o::rest) a W:=by
 refine wpList_plain hgd fun K hK=>?_
 unfold Oper.wp
 rw[hrun]
 show K (a.put o.dst undef) w1
 rw[hN]
 exact hK _ _ (h _ rfl)
end
namespace Kd
section
variable {α:Type} {enc:α→Value} {h1:∀x,(enc x).oneCell'=true} {e base g n cap:Nat} {ok:Nat→Prop} {W:World} {xs:List α}
theorem R_putg(h:(scalar enc h1).R e W base ok (.slice (some ⟨g,0,none⟩) n cap) xs)(i:Int)(x:α):(scalar enc h1).R e (W.setCell ⟨g,i.toNat,none⟩ (enc x)) base ok (.slice (some ⟨g,0,none⟩) n cap) (xs.set i.toNat x)∧W.grownBy (W.setCell ⟨g,i.toNat,none⟩ (enc x)) (some g):=by
 obtain⟨rfl,_⟩:=R_reads' h
 exact R_put h i x
end
end Kd
section
variable {P:Program} {ops:Array Oper} {rest:List Oper} {o:Oper} {a:Act} {Q:Exit→Act→World→Prop} {W:World}
theorem QM{t:TypeId}{p:Tmp}{v:Operand}(_ho:o.op= .store t (.tmp p) v)(h:wpList P ops Q (o::rest) a W):wpList P ops Q (o::rest) a W:=h
end
section
variable {P:Program} {ops:Array Oper} {o:Oper} {a:Act} {Q:Exit→Act→World→Prop} {Kc:Act→World→Prop}
theorem Fu{W w1:World}{v:Value}(hw:Region.wanted o (yielded ops a.tmps)=true)(hrun:(execOp a.eval o).run P W= .ok (.value v) w1)(h:Kc (a.put o.dst v) w1):if Region.wanted o (yielded ops a.tmps)=true then Oper.wp P o a W Kc Q else Kc (a.put o.dst undef) W:=by
 rw[if_pos hw]
 unfold Oper.wp
 rw[hrun]
 exact h
theorem zC{W:World}(hw:Region.wanted o (yielded ops a.tmps)=true){N:Tmp}(_hd:o.dst=some N){cs:Array Value}{t:TypeId}
 (hrun:(execOp a.eval o).run P W= .ok (.value (.pointer (some ⟨W.heap.size,0,none⟩))) (W.alloc (.cells cs t (0,0))))
 (h:∀g,g=W.heap.size→∀w1,w1.heap[g]?=some (.cells cs t (0,0))→Below W.heap.size W w1→Kc (a.put o.dst (.pointer (some ⟨g,0,none⟩))) w1):if Region.wanted o (yielded ops a.tmps)=true then Oper.wp P o a W Kc Q else Kc (a.put o.dst undef) W:=
 Fu hw hrun (h _ rfl _ (zB W _) (eY (Below.refl _ _) _))
namespace Kd
variable {α:Type}
theorem R_lit_step(d:Kd α){w0 W:World}(base e:Nat)(hw:Region.wanted o (yielded ops a.tmps)=true){N:Tmp}(_hd:o.dst=some N){xs:List α}{inner:List Value}{ok okp:Nat→Prop}
 (hrun:(execOp a.eval o).run P W= .ok (.value (.slice (some ⟨W.heap.size,0,none⟩) xs.length xs.length)) (W.alloc (.cells inner.toArray e)))
 (hrep:dm (d.M W base okp) d.sz xs inner)(hok:∀k,okp k→ok k)(hfresh:ok W.heap.size)(HB:Below base w0 W)(hbase:base≤W.heap.size)(hm:xs.length≤9223372036854775807)
 (h:∀v1 w1,d.R e w1 base ok v1 xs→Below base w0 w1→W.grownBy w1 none→(∃b,v1.ownBlock=some b∧W.heap.size≤b)→Kc (a.put o.dst v1) w1):if Region.wanted o (yielded ops a.tmps)=true then Oper.wp P o a W Kc Q else Kc (a.put o.dst undef) W:=by
 refine Fu hw hrun (h _ _ ⟨fun k hk=>?_,inner,?_,?_⟩ (HB.alloc hbase _) (World.grownBy_alloc W _ none) ⟨W.heap.size,by simp[Value.ownBlock],Nat.le_refl _⟩)
 ·have:W.heap.size=k:=by simpa [Value.ownBlock]using hk
  subst this
  exact hfresh
 ·have h2:=World.ownsRow_lit (base:=base) (e:=e) (size:=d.sz) W inner.toArray xs.length hbase (by simpa [maxLen]using hm) (by simpa using hrep.1)
  simpa using h2
 ·refine hrep.imp_ (fun p c hp=>d.M_mono (fun k hk=>⟨hok k hk.1,fun he=>?_⟩) (M_below (d.M_bound hp) (eY (Below.refl _ _) _)))
  have h3:k=W.heap.size:=by simpa [Value.ownBlock]using he
  have:=hk.2.2.1
  omega
theorem R_append_rows_step(d:Kd α){Rr:α→List Value→Prop}{w0 W:World}(base:Nat)(hw:Region.wanted o (yielded ops a.tmps)=true)(s x:Operand)(t e:TypeId)(z:Value)(bytes:Nat)
 (ho:o.op= .call {callee:=.builtin .append,args:=#[s,x],argTypes:=#[t,t]})
 (ht:P.underlying t=some (.slice e))(hinfo:(P.info? e).map (fun i=>(i.zero,i.size,i.bytes))=some (some z,d.sz,bytes))(hz:z.cells.size=d.sz)(hs0:0<d.sz)(hb0:0<bytes)
 (v:Value)(xs ys:List α)(A:Option Addr)(m c:Nat)(ok okp:Nat→Prop)(hs:a.eval s=v)(hx:a.eval x= .slice A m c)
 (HO:d.R e W base ok v xs)(HR:jH Rr d.sz W A m ys)(hKM:∀x cs,Rr x cs→d.M W base okp x cs)(hokp:∀k,okp k→ok k∧some k≠v.ownBlock)(hfresh:∀k,W.heap.size≤k→ok k)
 (HB:Below base w0 W)(hbase:base≤W.heap.size)(hl:(xs.length+m)*bytes≤140737488355328)
 (h:∀v1 w1,d.R e w1 base ok v1 (xs++ys)→Below base w0 w1→W.grownBy w1 v.ownBlock→(v1.ownBlock=v.ownBlock∨∃b,v1.ownBlock=some b∧W.heap.size≤b)→Kc (a.put o.dst v1) w1):
 if Region.wanted o (yielded ops a.tmps)=true then Oper.wp P o a W Kc Q else Kc (a.put o.dst undef) W:=by
 obtain⟨i0,hi,hzz⟩:=Option.map_eq_some_iff.1 hinfo
 simp only[Prod.mk.injEq]at hzz
 obtain⟨hz0,hz1,hz2⟩:=hzz
 have hm:ys.length=m:=HR.1
 have hlen:xs.length+m≤140737488355328:=Nat.le_trans (Nat.le_mul_of_pos_right _ hb0) hl
 obtain⟨hok,inner,hown,hr⟩:=HO
 have hrun:∃v1 w1,(Builtin.append_ #[t,t] o.type #[v,.slice A m c]).run P W= .ok v1 w1∧d.R e w1 base ok v1 (xs++ys)∧W.grownBy w1 v.ownBlock∧(v1.ownBlock=v.ownBlock∨∃b,v1.ownBlock=some b∧W.heap.size≤b):=by
  rcases A with _|ad
  ·have h0:m=0:=by
    rcases Nat.eq_zero_or_pos m with h0|h0
    ·exact h0
    ·obtain⟨ad,h,_⟩:=HR.2.2 h0
     cases h
   subst h0
   obtain rfl:ys=[]:=List.eq_nil_of_length_eq_zero hm
   refine⟨v,W,?_,by rw[List.append_nil];exact⟨hok,inner,hown,hr⟩,World.grownBy.refl W _,.inl rfl⟩
   rcases hown.2 with⟨rfl,hn⟩|⟨g,cap,cur,rfl,_,_,hnc,_⟩
   ·simp[Builtin.append_,run_underlying ht,sizeOf,typeInfo,hi,Builtin.lenOf,Builtin.firstCells]
   ·simp[Builtin.append_,run_underlying ht,sizeOf,typeInfo,hi,Builtin.lenOf,Builtin.firstCells,hnc,storeCells]
  ·obtain⟨news,hnr,hnc⟩:=jH.inner_ HR
   have hnM:dm (d.M W base okp) d.sz ys news:=hnr.imp_ (fun p c hp=>hKM p c hp)
   have hone:∀u∈news,u.oneCell'=true:=by
    intro u hu
    obtain⟨q,hq,rfl⟩:=List.mem_iff_getElem.1 hu
    have hql:q/d.sz<ys.length:=by
     rw[Nat.div_lt_iff_lt_mul hs0]
     rw[←hnM.1]
     exact hq
    have hc:=hnM.2 (q/d.sz) _ (List.getElem?_eq_getElem hql)
    refine d.K_one (d.K_of_M hc) _ ?_
    rw[List.mem_iff_getElem?]
    refine⟨q%d.sz,?_⟩
    rw[List.getElem?_take,if_pos (Nat.mod_lt _ hs0),List.getElem?_drop,Nat.mul_comm,Nat.div_add_mod,List.getElem?_eq_getElem hq]
   obtain⟨v1,w1,hrun,h2,hg,_,hat⟩:=run_append_own_at (P:=P) W base t o.type e i0 z d.sz bytes ht hi hz0 hz1 hz2 hz hs0 v xs.length inner hown ad m c news (by rw[hnM.1,hm]) hnc hone (by simp only[maxLen];omega) hl hbase
   have hat':v1.ownBlock=v.ownBlock∨∃b,v1.ownBlock=some b∧W.heap.size≤b:=by
    rcases hat with hat|hat
    ·exact .inl hat
    ·exact .inr ⟨_,hat,Nat.le_refl _⟩
   have hne:∀k,some k≠v.ownBlock→k<W.heap.size→some k≠v1.ownBlock:=by
    intro k hk hlt
    rcases hat' with hat|⟨b,hb,hle⟩
    ·rw[hat];exact hk
    ·rw[hb]
     intro he
     injection he with he
     omega
   have step:∀{q:α}{c:List Value}{o:Nat→Prop},d.M W base o q c→(∀k,o k→ok k∧some k≠v.ownBlock)→d.M w1 base (fun k=>ok k∧some k≠v1.ownBlock) q c:=by
    intro q c o hq ho
    have h1:=d.M_move (w1:=w1) (fun k hk=>hg.block k hk.2.2.1 (ho k hk.1).2) (d.M_bound hq)
    exact d.M_mono (fun k hk=>⟨(ho k hk.1).1,hne k (ho k hk.1).2 hk.2.2.1⟩) h1
   refine⟨v1,w1,hrun,⟨fun k hk=>?_,inner++news,by rw[List.length_append,hm];exact h2,reps_append (hr.imp_ (fun _ _ hq=>step hq (fun _ hk=>hk))) (hnM.imp_ (fun _ _ hq=>step hq hokp))⟩,hg,hat'⟩
   rcases hat' with hat|⟨b,hb,hle⟩
   ·exact hok k (hat▸hk)
   ·rw[hb]at hk
    injection hk with hk
    exact hfresh k (by omega)
 obtain⟨v1,w1,hr1,h1,hg,hat⟩:=hrun
 rw[if_pos hw]
 unfold Oper.wp execOp
 simp only[ho,resolve,invoke,builtin,Sem.run_bind,Sem.run_pure,Result.andThen_ok,List.map_toArray,List.map_cons,List.map_nil,hs,hx,hr1]
 exact h v1 w1 h1 (HB.grown hg hbase (tH hown)) hg hat
end Kd
end
inductive QN(P:Program)(tmps:Array Value)(w:World):List ResultVar→List Value→Prop where
 |nil:QN P tmps w [] []
 |tmp {u:Tmp} {rs:List ResultVar} {vs:List Value} (h:QN P tmps w rs vs):QN P tmps w (.tmp u::rs) (tmps.getD u undef::vs)
 |cell {p:Tmp} {ty:TypeId} {rs:List ResultVar} {vs:List Value} (g:Nat) (t:TypeId) (cs:Array Value) (fr:Nat×Nat) (d:TypeDesc)
  (hp:tmps.getD p undef= .pointer (some ⟨g,0,none⟩)) (hg:w.heap[g]?=some (.cells cs t fr))
  (hu:P.underlying ty=some d) (hd:(match d with|.struct _|.array _ _=>true|_=>false)=true) (hi:(P.info? ty).map (·.size)=some cs.size)
  (h:QN P tmps w rs vs):QN P tmps w (.cell p ty::rs) (.agg cs::vs)
section
variable {P:Program} {tmps:Array Value} {w:World}
theorem YK{rs:List ResultVar}{vs:List Value}(hv:QN P tmps w rs vs)(f:ResultVar→Sem Value)(hf:∀u,f (.tmp u)=pure (tmps.getD u undef))(hc:∀a t,f (.cell a t)=(do loadVar t (←asAddr (tmps.getD a undef)))):
 (rs.mapM f).run P w= .ok vs w:=by
 induction hv with
 |nil=>simp
 |tmp h ih=>simp[List.mapM_cons,hf,ih]
 |cell g t cs fr d hp hg hu hd hi h ih=>
  rw[List.mapM_cons,hc,hp]
  simp[asAddr,run_loadVar_row w g t _ cs fr d hg hu hd hi,ih]
theorem mJ{fn:Func}{rs:List ResultVar}{vs:List Value}(h:fn.results=rs.toArray)(hl:vs.length≠1)(hv:QN P tmps w rs vs):(results fn tmps).run P w= .ok (.tuple vs.toArray) w:=by
 unfold results
 rw[h,List.mapM_toArray]
 simp only[Sem.run_bind,Sem.run_map]
 rw[YK hv]
 ·simp[hl]
 ·intro u
  rfl
 ·intro a t
  rfl
end
end Go.Proofs.YtokblgdgpnakpaaGreatW.PrintWords
namespace Go.Proofs.YtokblgdgpnakpaaGreatW.PrintWords
open Go.RowKit
namespace Kd
def tag{α:Type}(f:Nat→Nat)(d:Kd α):Kd (α×Nat) where
 sz:=d.sz
 E:=d.E
 K:=fun w x cs=>d.K w x.1 cs
 M:=fun w base ok x cs=>d.M w base (fun k=>ok k∧f k=x.2) x.1 cs
 K_len:=fun h=>d.K_len h
 K_one:=fun h=>d.K_one h
 K_below:=fun hb h=>d.K_below hb h
 K_of_M:=fun h=>d.K_of_M h
 M_mono:=fun hok h=>d.M_mono (fun k hk=>⟨hok k hk.1,hk.2⟩) h
 M_bound:=fun h=>d.M_mono (fun _ hk=>⟨⟨hk.1.1,hk.2⟩,hk.1.2⟩) (d.M_bound h)
 M_move:=fun hm h=>d.M_move (fun k hk=>hm k hk.1) h
 M_lower:=fun hb h=>d.M_lower hb h
def raw(sz:Nat):Kd (List Value) where
 sz:=sz
 E:=[]
 K:=fun _ x cs=>cs=x∧cs.length=sz∧∀u∈cs,u.oneCell'=true
 M:=fun _ _ _ x cs=>cs=x∧cs.length=sz∧∀u∈cs,u.oneCell'=true
 K_len:=fun h=>h.2.1
 K_one:=fun h=>h.2.2
 K_below:=fun _ h=>h
 K_of_M:=fun h=>h
 M_mono:=fun _ h=>h
 M_bound:=fun h=>h
 M_move:=fun _ h=>h
 M_lower:=fun _ h=>h
def S{α:Type}(d:Kd α)(e:Nat)(w:World)(base:Nat)(ok:Nat→Prop)(v:Value)(xs:List α):Prop:=∃f,(tag f d).R e w base ok v xs.zipIdx
section
variable {α β:Type} {d:Kd α} {d':Kd β} {e e':Nat} {w w1 W:World} {base b:Nat} {ok ok' okv oku:Nat→Prop} {u v:Value} {xs:List α} {ys:List β}
theorem R_tight(hE:d.E=[])(h:d.R e w base ok v xs):d.R e w base (fun k=>some k=v.ownBlock) v xs:=by
 obtain⟨h0,inner,ho,hr⟩:=h
 refine⟨fun k hk=>hk.symm,inner,ho,hr.imp_ (fun p c hp=>d.M_mono (fun k hk=>?_) (d.M_bound hp))⟩
 obtain⟨_,_,_,q,hq,_⟩:=hk
 rw[hE]at hq
 cases hq
theorem S_nil(d:Kd α)(e:Nat)(w:World)(base:Nat)(ok:Nat→Prop):S d e w base ok (.slice none 0 0) []:=⟨fun _=>0,R_nil _ _ _ _ _⟩
end
def gap{α:Type}(f:Nat→Nat)(d:Kd α)(i:Nat)(c:List Value):Kd (α×Nat) where
 sz:=d.sz
 E:=d.E
 K:=fun w x cs=>(x.2=i→cs=c∧cs.length=d.sz∧∀u∈cs,u.oneCell'=true)∧(x.2≠i→d.K w x.1 cs)
 M:=fun w base ok x cs=>(x.2=i→cs=c∧cs.length=d.sz∧∀u∈cs,u.oneCell'=true)∧(x.2≠i→d.M w base (fun k=>ok k∧f k=x.2) x.1 cs)
 K_len:=fun{w x cs}h=>by
  by_cases hx:x.2=i
  ·exact(h.1 hx).2.1
  ·exact d.K_len (h.2 hx)
 K_one:=fun{w x cs}h=>by
  by_cases hx:x.2=i
  ·exact(h.1 hx).2.2
  ·exact d.K_one (h.2 hx)
 K_below:=fun hb h=>⟨h.1,fun hx=>d.K_below hb (h.2 hx)⟩
 K_of_M:=fun h=>⟨h.1,fun hx=>d.K_of_M (h.2 hx)⟩
 M_mono:=fun hok h=>⟨h.1,fun hx=>d.M_mono (fun k hk=>⟨hok k hk.1,hk.2⟩) (h.2 hx)⟩
 M_bound:=fun h=>⟨h.1,fun hx=>d.M_mono (fun _ hk=>⟨⟨hk.1.1,hk.2⟩,hk.1.2⟩) (d.M_bound (h.2 hx))⟩
 M_move:=fun hm h=>⟨h.1,fun hx=>d.M_move (fun k hk=>hm k hk.1) (h.2 hx)⟩
 M_lower:=fun hb h=>⟨h.1,fun hx=>d.M_lower hb (h.2 hx)⟩
def H{α:Type}(d:Kd α)(e:Nat)(w:World)(base:Nat)(ok:Nat→Prop)(v:Value)(xs:List α)(i:Int)(oki:Nat→Prop)(c:List Value):Prop:=
 (∀k,oki k→ok k)∧∃f,(gap f d i.toNat c).R e w base (fun k=>ok k∧¬oki k) v xs.zipIdx
end Kd
end Go.Proofs.YtokblgdgpnakpaaGreatW.PrintWords
namespace Go.Proofs.YtokblgdgpnakpaaGreatW.PrintWords
open Go.RowKit
section
variable {P:Program} {d:Nat} {xs ys:Array Value} {f:Field} {fs:List Field} {a b:Value} {r s:Bool} {w:World}
theorem YL(hn:(f.name== "_")=false)(ha:(part f.type xs f.offset).run P w= .ok a w)(hb:(part f.type ys f.offset).run P w= .ok b w)(he:(Op.equalIn d f.type a b).run P w= .ok r w):(Op.eqFields d xs ys [f]).run P w= .ok r w:=by
 have hn':f.name≠ "_" :=by simpa using hn
 simp only[Op.eqFields,if_pos hn',Sem.run_bind,ha,hb,he,Result.andThen_ok]
 cases r<;>simp
theorem Fv(hn:(f.name== "_")=false)(ha:(part f.type xs f.offset).run P w= .ok a w)(hb:(part f.type ys f.offset).run P w= .ok b w)(he:(Op.equalIn d f.type a b).run P w= .ok r w)(hr:(Op.eqFields d xs ys fs).run P w= .ok s w):(Op.eqFields d xs ys (f::fs)).run P w= .ok (r&&s) w:=by
 have hn':f.name≠ "_" :=by simpa using hn
 rw[Op.eqFields]
 simp only[if_pos hn',Sem.run_bind,ha,hb,he,Result.andThen_ok]
 cases r
 ·simp
 ·simpa using hr
theorem aef{t:TypeId}{fs:Array Field}(hu:P.underlying t=some (.struct fs))(hp:P.stoodInHeld t=false)(h:(Op.eqFields d xs ys fs.toList).run P w= .ok r w):(Op.equalIn (d+1) t (.agg xs) (.agg ys)).run P w= .ok r w:=by
 have hf:P.fieldsOf t=fs:=by simp[Program.fieldsOf,hu]
 rw[run_equalIn_struct (P:=P) w d t xs ys (by rw[hf];exact hu) hp,hf]
 exact h
end
section
variable {P:Program} {ops:Array Oper} {rest:List Oper} {o:Oper} {a:Act} {Q:Exit→Act→World→Prop} {W:World}
theorem ay(hw:Region.wanted o (yielded ops a.tmps)=true)(h:wpList P ops Q ({o with guard:=none}::rest) a W):wpList P ops Q (o::rest) a W:=by
 have h1:Region.wanted {o with guard:=none} (yielded ops a.tmps)=true:=rfl
 unfold wpList at h ⊢
 rw[if_pos h1]at h
 rw[if_pos hw]
 exact h
end
end Go.Proofs.YtokblgdgpnakpaaGreatW.PrintWords
namespace Go.Proofs.YtokblgdgpnakpaaGreatW.PrintWords
theorem dm.one{α:Type}{R:α→List Value→Prop}{ps:List α}{cs:List Value}{p:α}{v:Value}(hp:R p [v])(h:dm R 1 ps cs):dm R 1 (p::ps) (v::cs):=by
 refine⟨by simp[h.1],fun j q hq=>?_⟩
 cases j with
 |zero=>
  simp only[List.getElem?_cons_zero,Option.some.injEq]at hq
  subst hq
  simpa using hp
 |succ j=>
  simp only[List.getElem?_cons_succ]at hq
  have h1:=h.2 j q hq
  simpa [Nat.mul_one]using h1
theorem dm.front{α:Type}{R:α→List Value→Prop}{size:Nat}{ps:List α}{cs c all:List Value}{p:α}(hp:R p c)(hc:c.length=size)(h:dm R size ps cs)(ha:c++cs=all):dm R size (p::ps) all:=by
 subst ha
 refine⟨by rw[List.length_append,hc,h.1,List.length_cons,Nat.succ_mul,Nat.add_comm],fun j q hq=>?_⟩
 cases j with
 |zero=>
  simp only[List.getElem?_cons_zero,Option.some.injEq]at hq
  subst hq
  rw[Nat.zero_mul,List.drop_zero,List.take_append_of_le_length (by omega),List.take_of_length_le (by omega)]
  exact hp
 |succ j=>
  simp only[List.getElem?_cons_succ]at hq
  have h1:=h.2 j q hq
  rw[Nat.succ_mul,List.drop_append,List.drop_of_length_le (by rw[hc];exact Nat.le_add_left _ _),List.nil_append,hc,Nat.add_sub_cancel]
  exact h1
theorem dm.c2{α:Type}{R:α→List Value→Prop}{ps:List α}{cs:List Value}{p:α}{va vb:Value}(hp:R p [va,vb])(h:dm R 2 ps cs):dm R 2 (p::ps) (va::vb::cs):=dm.front hp rfl h rfl
theorem dm.c3{α:Type}{R:α→List Value→Prop}{ps:List α}{cs:List Value}{p:α}{va vb vc:Value}(hp:R p [va,vb,vc])(h:dm R 3 ps cs):dm R 3 (p::ps) (va::vb::vc::cs):=dm.front hp rfl h rfl
theorem dm.c4{α:Type}{R:α→List Value→Prop}{ps:List α}{cs:List Value}{p:α}{va vb vc vd:Value}(hp:R p [va,vb,vc,vd])(h:dm R 4 ps cs):dm R 4 (p::ps) (va::vb::vc::vd::cs):=dm.front hp rfl h rfl
theorem dm.c5{α:Type}{R:α→List Value→Prop}{ps:List α}{cs:List Value}{p:α}{va vb vc vd ve:Value}(hp:R p [va,vb,vc,vd,ve])(h:dm R 5 ps cs):dm R 5 (p::ps) (va::vb::vc::vd::ve::cs):=dm.front hp rfl h rfl
theorem dm.c6{α:Type}{R:α→List Value→Prop}{ps:List α}{cs:List Value}{p:α}{va vb vc vd ve vf:Value}(hp:R p [va,vb,vc,vd,ve,vf])(h:dm R 6 ps cs):dm R 6 (p::ps) (va::vb::vc::vd::ve::vf::cs):=dm.front hp rfl h rfl
theorem dm.c7{α:Type}{R:α→List Value→Prop}{ps:List α}{cs:List Value}{p:α}{va vb vc vd ve vf vg:Value}(hp:R p [va,vb,vc,vd,ve,vf,vg])(h:dm R 7 ps cs):dm R 7 (p::ps) (va::vb::vc::vd::ve::vf::vg::cs):=dm.front hp rfl h rfl
theorem dm.c8{α:Type}{R:α→List Value→Prop}{ps:List α}{cs:List Value}{p:α}{va vb vc vd ve vf vg vh:Value}(hp:R p [va,vb,vc,vd,ve,vf,vg,vh])(h:dm R 8 ps cs):dm R 8 (p::ps) (va::vb::vc::vd::ve::vf::vg::vh::cs):=dm.front hp rfl h rfl
theorem dm.c9{α:Type}{R:α→List Value→Prop}{ps:List α}{cs:List Value}{p:α}{va vb vc vd ve vf vg vh vi:Value}(hp:R p [va,vb,vc,vd,ve,vf,vg,vh,vi])(h:dm R 9 ps cs):dm R 9 (p::ps) (va::vb::vc::vd::ve::vf::vg::vh::vi::cs):=dm.front hp rfl h rfl
theorem dm.c10{α:Type}{R:α→List Value→Prop}{ps:List α}{cs:List Value}{p:α}{va vb vc vd ve vf vg vh vi vj:Value}(hp:R p [va,vb,vc,vd,ve,vf,vg,vh,vi,vj])(h:dm R 10 ps cs):dm R 10 (p::ps) (va::vb::vc::vd::ve::vf::vg::vh::vi::vj::cs):=dm.front hp rfl h rfl
end Go.Proofs.YtokblgdgpnakpaaGreatW.PrintWords
namespace Go.Proofs.YtokblgdgpnakpaaGreatW.PrintWords
open Go.RowKit
namespace Kd
structure Heap{α:Type}(d:Kd α):Prop where
 K:∀{w w1:World}{x:α}{cs:List Value},(∀k,k<w.heap.size→w1.heap[k]?=w.heap[k]?)→d.K w x cs→d.K w1 x cs
theorem cell_heap{w w1:World}(hb:∀k,k<w.heap.size→w1.heap[k]?=w.heap[k]?){a:Addr}{v:Value}(h:w.cell? a=some v):w1.cell? a=some v:=by
 have:=hb a.block (World.block_lt_of_cell? w a h)
 simpa [World.cell?,this]using h
theorem Heap.C{α:Type}{d:Kd α}(hd:Heap d){w w1:World}{A:Option Addr}{n:Nat}{xs:List α}(hb:∀k,k<w.heap.size→w1.heap[k]?=w.heap[k]?)(h:d.C w A n xs):d.C w1 A n xs:=
 ⟨h.1,h.2.1,fun hn=>by
  obtain⟨ad,e,hc⟩:=h.2.2 hn
  refine⟨ad,e,fun j p hj=>?_⟩
  obtain⟨c,hs,hr,hcell⟩:=hc j p hj
  exact⟨c,hs,hd.K hb hr,fun i u hu=>cell_heap hb (hcell i u hu)⟩⟩
end Kd
end Go.Proofs.YtokblgdgpnakpaaGreatW.PrintWords
namespace Go.Proofs.YtokblgdgpnakpaaGreatW.PrintWords
open Go.RowKit
def Kept(w W:World)(S:Nat→Prop):Prop:=w.heap.size≤W.heap.size∧∀i,i<w.heap.size→¬S i→W.heap[i]?=w.heap[i]?
section
variable {w W W2:World} {S S2 S':Nat→Prop}
theorem Kept.refl(w:World)(S:Nat→Prop):Kept w w S:=⟨Nat.le_refl _,fun _ _ _=>rfl⟩
theorem Kept.of_below(h:Below w.heap.size w W)(S:Nat→Prop):Kept w W S:=⟨h.size,fun i hi _=>h.block i hi⟩
theorem Kept.mono(h:Kept w W S)(hs:∀k,S k→S' k):Kept w W S':=⟨h.1,fun i hi hn=>h.2 i hi (fun hk=>hn (hs i hk))⟩
theorem Kept.then_(h:Kept w W S)(k:Kept W W2 S2)(hs:∀k,S2 k→S k∨w.heap.size≤k):Kept w W2 S:=
 ⟨Nat.le_trans h.1 k.1,fun i hi hn=>(k.2 i (Nat.lt_of_lt_of_le hi h.1) (fun h2=>(hs i h2).elim hn (fun h3=>by omega))).trans (h.2 i hi hn)⟩
theorem Kept.of_grown{row:Option Nat}(hg:W.grownBy W2 row)(h:Kept w W S)(hr:∀k,row=some k→S k∨w.heap.size≤k):Kept w W2 S:=
 h.then_ (S2:=fun k=>row=some k) ⟨hg.size,fun i hi hn=>hg.block i hi (fun he=>hn he.symm)⟩ hr
theorem Kept.below(h:Kept w W S)(hb:Below W.heap.size W W2):Kept w W2 S:=h.then_ (Kept.of_below hb (fun _=>False)) (fun _ hk=>hk.elim)
theorem Kept.alloc(h:Kept w W S)(o:Obj):Kept w (W.alloc o) S:=h.below (eY (Below.refl _ _) o)
theorem Kept.drew(h:Kept w W S):Kept w W.drew S:=h
theorem Kept.drewN(h:Kept w W S)(m:Nat):Kept w (W.drewN m) S:=h
theorem Kept.setCell(h:Kept w W S){p:Addr}(hp:S p.block∨w.heap.size≤p.block)(u:Value):Kept w (W.setCell p u) S:=
 h.then_ (S2:=fun k=>k=p.block) ⟨by simp[World.setCell],fun i _ hn=>Below.heap_setCell W p u i hn⟩ (fun k hk=>by rw[hk];exact hp)
theorem Kept.keep{g:Nat}(h:ax w W g none)(k:Kept W W2 S2)(hs:∀k,S2 k→w.heap.size≤k):ax w W2 g none:=
 ⟨Nat.le_trans h.1 k.1,fun i hi hg hr=>(k.2 i (Nat.lt_of_lt_of_le hi h.1) (fun h2=>by have:=hs i h2;omega)).trans (h.2 i hi hg hr)⟩
theorem mZ{g:Nat}{o:Obj}(hb:W.heap[g]?=some o)(hk:Kept W W2 S)(hne:¬S g):W2.heap[g]?=some o:=(hk.2 g (gJ hb) hne).trans hb
end
namespace Kd
section
variable {α:Type} {d:Kd α} {e base n c:Nat} {ok oki S S2:Nat→Prop} {w w0 W W1 W2:World} {v:Value} {A:Option Addr} {xs:List α} {i:Int} {cs:List Value}
theorem R_kept(h:d.R e W base ok v xs)(hk:Kept W W2 S)(hne:∀k,ok k→¬S k):d.R e W2 base ok v xs:=R_step h (fun k ho hlt=>hk.2 k hlt (hne k ho))
theorem C_kept_now(h:∀W',Kept w W' S→d.C W' A n xs)(hk:Kept w W S):d.C W A n xs:=h W hk
end
end Kd
def BD(P:World→Prop)(W:World)(ok:Nat→Prop):Prop:=∀W':World,(∀k,ok k→k<W.heap.size→W'.heap[k]?=W.heap[k]?)→P W'
theorem a4g{W W1:World}{k:Nat}(h:W1.heap[k]?=W.heap[k]?)(hlt:k<W.heap.size):k<W1.heap.size:=by
 rw[Array.getElem?_eq_getElem hlt]at h
 exact(Array.getElem?_eq_some_iff.1 h).1
namespace BD
variable {P Q:World→Prop} {W W1:World} {ok ok':Nat→Prop}
theorem now(h:BD P W ok):P W:=h W (fun _ _ _=>rfl)
theorem mono(h:BD P W ok)(hok:∀k,ok k→ok' k):BD P W ok':=fun W' hW=>h W' (fun k hk hlt=>hW k (hok k hk) hlt)
theorem bound(h:BD P W ok):BD P W (fun k=>ok k∧k<W.heap.size):=fun W' hW=>h W' (fun k hk hlt=>hW k ⟨hk,hlt⟩ hlt)
theorem step(h:BD P W ok)(hm:∀k,ok k→k<W.heap.size→W1.heap[k]?=W.heap[k]?):BD P W1 ok:=fun W' hW=>h W' (fun k hk hlt=>(hW k hk (a4g (hm k hk hlt) hlt)).trans (hm k hk hlt))
theorem old(h:BD P W ok)(hb:Below W.heap.size W W1):BD P W1 (fun k=>ok k∧k<W.heap.size):=(h.bound).step (fun k _ hlt=>hb.block k hlt)
end BD
namespace Kd
def F{α:Type}(d:Kd α)(W:World)(ok:Nat→Prop)(A:Option Addr)(n:Nat)(xs:List α):Prop:=BD (fun W=>d.C W A n xs) W ok
def FK{α:Type}(d:Kd α)(W:World)(ok:Nat→Prop)(x:α)(c:List Value):Prop:=BD (fun W=>d.K W x c) W ok
section
variable {α β:Type} {d:Kd α} {e base n n' cc g N:Nat} {ok ok' okp S:Nat→Prop} {w w0 w1 W W1:World} {A A':Option Addr} {u v v1:Value} {xs:List α} {xs':List β} {d':Kd β} {x:α} {c:List Value}
theorem F_nil(d:Kd α)(W:World)(ok:Nat→Prop):F d W ok none ([]:List α).length []:=fun W' _=>C_nil d W'
theorem FK_of_M(h:d.M W base ok x c):FK d W ok x c:=fun _ hW=>d.K_of_M (M_step h hW)
end
end Kd
end Go.Proofs.YtokblgdgpnakpaaGreatW.PrintWords
namespace Go.Proofs.YtokblgdgpnakpaaGreatW.PrintWords
open Go.RowKit
namespace Kd
def chunks(sz:Nat)(n:Nat)(inner:List Value):List (List Value):=(List.range n).map fun j=>(inner.drop (j*sz)).take sz
theorem chunks_length(sz n:Nat)(inner:List Value):(chunks sz n inner).length=n:=by simp[chunks]
theorem chunks_at{sz n:Nat}{inner:List Value}{j:Nat}(hj:j<n):(chunks sz n inner)[j]?=some ((inner.drop (j*sz)).take sz):=by simp[chunks,hj]
theorem chunks_get{sz n:Nat}{inner:List Value}{j:Nat}{c:List Value}(h:(chunks sz n inner)[j]?=some c):c=(inner.drop (j*sz)).take sz:=by
 have hj:j<n:=by have:=(List.getElem?_eq_some_iff.1 h).1;rwa[chunks_length]at this
 rw[chunks_at hj]at h
 injection h with h
 exact h.symm
theorem reps_raw{α:Type}{Rr:α→List Value→Prop}{sz:Nat}{xs:List α}{inner:List Value}(h:dm Rr sz xs inner)(hR:∀x c,Rr x c→c.length=sz∧∀u∈c,u.oneCell'=true):dm (fun x cs=>cs=x∧cs.length=sz∧∀u∈cs,u.oneCell'=true) sz (chunks sz xs.length inner) inner:=by
 refine⟨by rw[chunks_length];exact h.1,fun j p hj=>?_⟩
 have hjl:j<xs.length:=by have:=(List.getElem?_eq_some_iff.1 hj).1;rwa[chunks_length]at this
 have hp:=chunks_get hj
 exact⟨hp.symm,hR _ _ (h.2 j _ (List.getElem?_eq_getElem hjl))⟩
section
variable {α:Type} {d:Kd α} {e base n cc g:Nat} {ok ok' okp S:Nat→Prop} {w w1 W W1:World} {A:Option Addr} {u v v1:Value} {xs:List α} {x:α} {c:List Value}
def N{α:Type}(d:Kd α)(e:Nat)(w:World)(base:Nat)(ok:Nat→Prop)(v:Value)(xs:List α):Prop:=
 (∀k,v.ownBlock=some k→ok k)∧∃rows:List (List Value),rows.length=xs.length∧(raw d.sz).R e w base (fun k=>some k=v.ownBlock) v rows∧∀(j:Nat)(x:α)(c:List Value),xs[j]?=some x→rows[j]?=some c→FK d w (fun k=>ok k∧some k≠v.ownBlock) x c
theorem R_N(h:d.R e w base ok v xs):N d e w base ok v xs:=by
 obtain⟨h0,inner,ho,hr⟩:=h
 refine⟨h0,chunks d.sz xs.length inner,chunks_length _ _ _,⟨fun k hk=>hk.symm,inner,by rw[chunks_length];exact ho,reps_raw hr (fun x c hp=>⟨d.K_len (d.K_of_M hp),d.K_one (d.K_of_M hp)⟩)⟩,fun j x c hx hc=>?_⟩
 rw[chunks_get hc]
 exact FK_of_M (hr.2 j x hx)
theorem N_nil(d:Kd α)(e:Nat)(w:World)(base:Nat)(ok:Nat→Prop):N d e w base ok (.slice none 0 0) []:=R_N (R_nil _ _ _ _ _)
end
end Kd
end Go.Proofs.YtokblgdgpnakpaaGreatW.PrintWords
section
namespace Go.Proofs.YtokblgdgpnakpaaGreatW.PrintMore
open Go.RowKit Go.Proofs.YtokblgdgpnakpaaGreatW.PrintWords
theorem bA(k k':IntKind)(x y:Int):Builtin.max2 (.int k x) (.int k' y)=pure (.int k (if x<y then y else x)):=by simp only[Builtin.max2,gt_iff_lt]
theorem bn(k k':IntKind)(x y:Int):Builtin.min2 (.int k x) (.int k' y)=pure (.int k (if y<x then y else x)):=by simp only[Builtin.min2]
theorem bV(ats:Array TypeId)(ty:TypeId)(a b:Value):Builtin.max_ ats ty #[a,b]=(Builtin.max2 a b>>= fun s=>pure s):=by simp only[Builtin.max_,List.foldlM_cons,List.foldlM_nil]
theorem bW(ats:Array TypeId)(ty:TypeId)(a b:Value):Builtin.min_ ats ty #[a,b]=(Builtin.min2 a b>>= fun s=>pure s):=by simp only[Builtin.min_,List.foldlM_cons,List.foldlM_nil]
theorem aW(ats:Array TypeId)(ty:TypeId)(a b c:Value):Builtin.max_ ats ty #[a,b,c]=(Builtin.max2 a b>>= fun s=>Builtin.max2 s c>>= fun s=>pure s):=by simp only[Builtin.max_,List.foldlM_cons,List.foldlM_nil]
theorem aV(ats:Array TypeId)(ty:TypeId)(a b c:Value):Builtin.min_ ats ty #[a,b,c]=(Builtin.min2 a b>>= fun s=>Builtin.min2 s c>>= fun s=>pure s):=by simp only[Builtin.min_,List.foldlM_cons,List.foldlM_nil]
theorem bE(ats:Array TypeId)(ty:TypeId)(a b c d:Value):Builtin.max_ ats ty #[a,b,c,d]=(Builtin.max2 a b>>= fun s=>Builtin.max2 s c>>= fun s=>Builtin.max2 s d>>= fun s=>pure s):=by simp only[Builtin.max_,List.foldlM_cons,List.foldlM_nil]
theorem bF(ats:Array TypeId)(ty:TypeId)(a b c d:Value):Builtin.min_ ats ty #[a,b,c,d]=(Builtin.min2 a b>>= fun s=>Builtin.min2 s c>>= fun s=>Builtin.min2 s d>>= fun s=>pure s):=by simp only[Builtin.min_,List.foldlM_cons,List.foldlM_nil]
end Go.Proofs.YtokblgdgpnakpaaGreatW.PrintMore
namespace Go.Proofs.YtokblgdgpnakpaaGreatW.PrintWords
open Go.RowKit
section
variable {P:Program} {ops:Array Oper} {rest:List Oper} {o:Oper} {a:Act} {Q:Exit→Act→World→Prop} {W:World}
theorem kY{b:Builtin}{xs:Array Operand}{ts:Array TypeId}(_ho:o.op= .call {callee:=.builtin b,args:=xs,argTypes:=ts})(h:wpList P ops Q (o::rest) a W):wpList P ops Q (o::rest) a W:=h
end
def mx(a b:Int):Int:=if a<b then b else a
theorem uH(w:World)(n:Nat):w.drewN n=w.drewN n:=rfl
namespace Kd
section
variable {α:Type} {d:Kd α} {e base b b' g N:Nat} {ok ok1:Nat→Prop} {W W2 w1:World} {u v:Value} {xs ys:List α} {S:Nat→Prop}
theorem R_keptB(h:d.R e W base ok v xs)(hk:Kept W W2 S)(hne:∀k,ok k→¬S k):d.R e W2 base (fun k=>ok k∧(¬S k∧k<W.heap.size)) v xs:=
 R_kept (R_mono (R_bound h) (fun k hk=>⟨hk.1,hne k hk.1,hk.2.2.1⟩)) hk (fun _ hk=>hk.2.1)
end
end Kd
end Go.Proofs.YtokblgdgpnakpaaGreatW.PrintWords
namespace Go.Proofs.YtokblgdgpnakpaaGreatW.PrintWords
open Go.RowKit
namespace Kd
def V{α:Type}(d:Kd α)(_e:Nat)(W:World)(_base:Nat)(ok:Nat→Prop)(v:Value)(xs:List α):Prop:=∃A c,v= .slice A xs.length c∧xs.length≤c∧F d W ok A xs.length xs
section
variable {α β:Type} {d:Kd α} {e base base' n m c g N' lo hi:Nat} {ok ok' S:Nat→Prop} {w W w1:World} {A:Option Addr} {ad:Addr} {u v v1:Value} {xs:List α}
theorem V_nil(d:Kd α)(e:Nat)(W:World)(base:Nat)(ok:Nat→Prop):V d e W base ok (.slice none 0 0) []:=⟨none,0,rfl,Nat.le_refl _,F_nil d W ok⟩
theorem R_newM{M:Nat→Prop}(h:d.R e w1 W.heap.size ok v xs)(hle:w.heap.size≤W.heap.size)(hM:∀k,w.heap.size≤k→M k):d.R e w1 W.heap.size (fun k=>M k∧ok k) v xs:=R_mono (R_bound h) (fun k hk=>⟨hM k (Nat.le_trans hle hk.2.1),hk.1⟩)
end
end Kd
end Go.Proofs.YtokblgdgpnakpaaGreatW.PrintWords
end
namespace Go.Proofs.YtokblgdgpnakpaaGreat.Lm
open Go.RowKit Go.Proofs.YtokblgdgpnakpaaGreatW.PrintWords Go.Proofs.YtokblgdgpnakpaaGreatW.PrintLast Go.Proofs.YtokblgdgpnakpaaGreatW.PrintMore
def Ig(n:Int)(i:Nat):Int:=(n/2^i)%2
def lJ(n:Int):Nat→List Int
 |0=>[]
 |m+1=>Ig n m::lJ n m
theorem mK(n:Int)(m:Nat):(lJ n m).length=m:=by induction m with
 |zero=>rfl
 |succ m ih=>simp[lJ,ih]
def kg(l:List Int):Int:=l.foldl (fun n b=>2*n+b) 0
theorem BF(l:List Int)(b:Int):kg (l++[b])=2*kg l+b:=by simp[kg]
theorem Ih(l:List Int)(j:Nat)(hj:j<l.length):kg (l.take (j+1))=2*kg (l.take j)+rd l j:=by
 rw[List.take_succ_eq_append_getElem hj,BF]
 simp[rd,List.getD_eq_getElem?_getD,List.getElem?_eq_getElem hj]
theorem abD(l:List Int)(h01:∀x∈l,x=0∨x=1)(j:Nat)(hj:j<l.length):rd l j=0∨rd l j=1:=by
 have:rd l j=l[j]:=by simp[rd,List.getD_eq_getElem?_getD,List.getElem?_eq_getElem hj]
 rw[this];exact h01 _ (List.getElem_mem hj)
theorem yH(l:List Int)(h01:∀x∈l,x=0∨x=1)(j:Nat)(hj:j≤l.length):0≤kg (l.take j)∧kg (l.take j)<2^j:=by
 induction j with
 |zero=>simp[kg]
 |succ j ih=>
  have h1:=ih (by omega)
  have h2:=abD l h01 j (by omega)
  rw[Ih l j (by omega),Int.pow_succ]
  omega
theorem a4h(j:Nat)(hj:j≤8):(2:Int)^j≤256:=by
 have:j=0∨j=1∨j=2∨j=3∨j=4∨j=5∨j=6∨j=7∨j=8:=by omega
 rcases this with h|h|h|h|h|h|h|h|h<;>subst h<;>decide
def signs:List UInt8:=[101,116,97,111,105,110,115,114,104,108,48,49,50,51,52,53,54,55,56,57,100,99,117,109,102,112,103,119,121,98,118,107,120,106,113,122,58,47,45]
def place(c:Int):Int:=Lib.indexByte signs c.toNat.toUInt8
def nQ(p:Int):List Int:=if p<24 then lJ p 5 else lJ (96+p-24) 7
def jv(a:ByteArray):Nat→List Int
 |0=>[]
 |j+1=>jv a j++nQ (place (bt a j))
def jm(l:List Int):List Int:=l++List.replicate ((8-l.length%8)%8) 1
def kZ(l:List Int):Nat→List Int
 |0=>[]
 |m+1=>kZ l m++[kg ((l.drop (8*m)).take 8)]
def oG(a:ByteArray):ByteArray:=strOfNums (kZ (jm (jv a a.size)) ((jm (jv a a.size)).length/8))
def lX(a:ByteArray):Prop:=a.size≤16∧∀i:Nat,i<a.size→0≤place (bt a i)∧place (bt a i)<39
instance(a:ByteArray):Decidable (lX a):=by unfold lX;infer_instance
theorem JD(p:Int):(nQ p).length≤7:=by unfold nQ;split<;>simp[mK]
theorem uI(a:ByteArray)(j:Nat):(jv a j).length≤7*j:=by
 induction j with
 |zero=>simp[jv]
 |succ j ih=>simp only[jv,List.length_append];have:=JD (place (bt a j));omega
theorem uJ(l:List Int)(m:Nat):(kZ l m).length=m:=by
 induction m with
 |zero=>rfl
 |succ m ih=>simp[kZ,ih]
theorem YM(l:List Int)(h:l.length%8≠0):jm (l++[1])=jm l:=by
 unfold jm
 have e:(8-l.length%8)%8=(8-(l++[1]).length%8)%8+1:=by simp;omega
 rw[e,List.replicate_succ,List.append_assoc,List.singleton_append]
theorem YN(l:List Int)(h:l.length%8=0):jm l=l:=by
 unfold jm;rw[h];simp
theorem QO(n:Int)(m:Nat):∀x∈lJ n m,x=0∨x=1:=by
 induction m with
 |zero=>intro x hx;cases hx
 |succ m ih=>
  intro x hx
  simp only[lJ,List.mem_cons]at hx
  rcases hx with rfl|hx
  ·unfold Ig;omega
  ·exact ih x hx
theorem YO(a:ByteArray)(j:Nat):∀x∈jv a j,x=0∨x=1:=by
 induction j with
 |zero=>intro x hx;cases hx
 |succ j ih=>
  intro x hx
  simp only[jv,List.mem_append]at hx
  rcases hx with hx|hx
  ·exact ih x hx
  ·unfold nQ at hx
   split at hx
   ·exact QO _ _ x hx
   ·exact QO _ _ x hx
theorem Dg(l:List Int):(jm l).length%8=0∧l.length≤(jm l).length∧(jm l).length<l.length+8:=by
 unfold jm;simp;omega
def ko(b:ByteArray):Nat→List Int
 |0=>[]
 |n+1=>ko b n++lJ (bt b n) 8
def oK:Nat→List Int→List Int×List Int
 |0,l=>([],l)
 |f+1,l=>
  if l.length<5 then([],l)
  else if kg (l.take 5)<24 then(kg (l.take 5)::(oK f (l.drop 5)).1,(oK f (l.drop 5)).2)
  else if l.length<7 then([],l)
  else if kg (l.take 7)-72≥39 then([],l)
  else((kg (l.take 7)-72)::(oK f (l.drop 7)).1,(oK f (l.drop 7)).2)
def l5(p:Int):Int:=bt (⟨#[101,116,97,111,105,110,115,114,104,108,48,49,50,51,52,53,54,55,56,57,100,99,117,109,102,112,103,119,121,98,118,107,120,106,113,122,58,47,45]⟩:ByteArray) p
def Yt(b:ByteArray):ByteArray:=strOfNums ((oK 30 (ko b b.size)).1.map l5)
def EvQ{α:Type}(g:Nat→Option α)(Q:α→Prop):Prop:=∃r,Q r∧Ev g r
theorem EvQ.now{α:Type}{Q:α→Prop}{r:α}(h:Q r):EvQ (fun _=>some r) Q:=⟨r,h,Ev.now r⟩
theorem EvQ.bind{α β:Type}{P:α→Prop}{Q:β→Prop}{g:Nat→Option α}{f:Nat→α→Option β}
 (h:EvQ g P)(k:∀a,P a→EvQ (fun n=>f n a) Q):EvQ (fun n=>(g n).bind (f n)) Q:=by
 obtain⟨a,ha,hg⟩:=h
 obtain⟨r,hr,hf⟩:=k a ha
 exact⟨r,hr,Ev.bind hg hf⟩
theorem EvQ.bindE{α β:Type}{a:α}{Q:β→Prop}{g:Nat→Option α}{f:Nat→α→Option β}
 (h:Ev g a)(k:EvQ (fun n=>f n a) Q):EvQ (fun n=>(g n).bind (f n)) Q:=by
 obtain⟨r,hr,hf⟩:=k
 exact⟨r,hr,Ev.bind h hf⟩
theorem EvQ.mono{α:Type}{P Q:α→Prop}{g:Nat→Option α}(h:EvQ g P)(k:∀a,P a→Q a):EvQ g Q:=by
 obtain⟨a,ha,hg⟩:=h
 exact⟨a,k a ha,hg⟩
theorem EvQ.step{α:Type}{Q:α→Prop}{g f:Nat→Option α}(h:∀k,g (k+1)=f k)(k:EvQ f Q):EvQ g Q:=by
 obtain⟨r,hr,hf⟩:=k
 exact⟨r,hr,Ev.step h hf⟩
theorem EvQ.congr{α:Type}{Q:α→Prop}{g f:Nat→Option α}(h:∀k,g k=f k)(k:EvQ f Q):EvQ g Q:=by
 obtain⟨r,hr,hf⟩:=k
 exact⟨r,hr,Ev.congr h hf⟩
theorem EvQ.ite{α:Type}{Q:α→Prop}{c:Prop}[Decidable c]{g f:Nat→Option α}(h:c→EvQ g Q)(k:¬c→EvQ f Q):EvQ (fun n=>if c then g n else f n) Q:=by
 by_cases hc:c
 ·exact EvQ.congr (fun _=>if_pos hc) (h hc)
 ·exact EvQ.congr (fun _=>if_neg hc) (k hc)
theorem EvQ.pos{α:Type}{Q:α→Prop}{c:Prop}[Decidable c]{g f:Nat→Option α}(hc:c)(h:EvQ g Q):EvQ (fun n=>if c then g n else f n) Q:=EvQ.congr (fun _=>if_pos hc) h
theorem EvQ.neg{α:Type}{Q:α→Prop}{c:Prop}[Decidable c]{g f:Nat→Option α}(hc:¬c)(h:EvQ f Q):EvQ (fun n=>if c then g n else f n) Q:=EvQ.congr (fun _=>if_neg hc) h
theorem Ev.pos{α:Type}{r:α}{c:Prop}[Decidable c]{g f:Nat→Option α}(hc:c)(h:Ev g r):Ev (fun n=>if c then g n else f n) r:=Ev.congr (fun _=>if_pos hc) h
theorem Ev.neg{α:Type}{r:α}{c:Prop}[Decidable c]{g f:Nat→Option α}(hc:¬c)(h:Ev f r):Ev (fun n=>if c then g n else f n) r:=Ev.congr (fun _=>if_neg hc) h
theorem EvQ.ev{α:Type}{r:α}{g:Nat→Option α}(h:EvQ g (fun x=>x=r)):Ev g r:=by
 obtain⟨a,rfl,hg⟩:=h
 exact hg
theorem EvQ.of_ev{α:Type}{r:α}{Q:α→Prop}{g:Nat→Option α}(h:Ev g r)(k:Q r):EvQ g Q:=⟨r,k,h⟩
theorem EvQ.of_eq{α:Type}{r:α}{Q:α→Prop}{o:Option α}(h:o=some r)(k:Q r):EvQ (fun _=>o) Q:=⟨r,k,⟨0,fun _ _=>h⟩⟩
theorem w64(n:Int)(h0: -9223372036854775808≤n)(h1:n≤9223372036854775807):wrap64 n=n:=by unfold wrap64;omega
theorem dL(n:Int)(h0:0≤n)(h1:n<9223372036854775808):wrap64 n=n:=by unfold wrap64;omega
def Bytes(l:List Int):Prop:=∀x∈l,0≤x∧x<256
theorem bytes_of_wf{l:List Int}(h:∀x∈l,(Lit.int .u8 x).wf=true):Bytes l:=by
 intro x hx
 have:=h x hx
 simp[Lit.wf,IntKind.min,IntKind.max,IntKind.bits,IntKind.signed]at this
 omega
theorem Fw{l:List Int}(h:Bytes l)(i:Int):0≤rd l i∧rd l i<256:=by
 unfold rd
 by_cases hi:i.toNat<l.length
 ·rw[List.getD_eq_getElem?_getD,List.getElem?_eq_getElem hi]
  exact h _ (List.getElem_mem hi)
 ·rw[List.getD_eq_getElem?_getD,List.getElem?_eq_none (by omega)]
  simp
theorem Bytes.take{l:List Int}(h:Bytes l)(n:Nat):Bytes (l.take n):=fun x hx=>h x (List.mem_of_mem_take hx)
theorem MJ(a b:Nat)(ha:a<2^62)(hb:b<2^62):Go.bits .xor .i64 (a:Int) (b:Int)=((a^^^b:Nat):Int)∧a^^^b<2^62:=by
 have hx:a^^^b<2^62:=Nat.xor_lt_two_pow ha hb
 refine⟨?_,hx⟩
 have h1:(BitVec.ofInt 64 (a:Int)).toNat=a:=by
  rw[BitVec.ofInt_natCast,BitVec.toNat_ofNat];exact Nat.mod_eq_of_lt (by omega)
 have h2:(BitVec.ofInt 64 (b:Int)).toNat=b:=by
  rw[BitVec.ofInt_natCast,BitVec.toNat_ofNat];exact Nat.mod_eq_of_lt (by omega)
 show IntKind.i64.wrap ((BitVec.ofInt 64 (a:Int)^^^BitVec.ofInt 64 (b:Int)).toNat:Int)=_
 rw[BitVec.toNat_xor,h1,h2,IntKind.wrap_i64]
 omega
theorem Fx(x y:Int)(hx:0≤x)(hx1:x<2^62)(hy:0≤y)(hy1:y<2^62):0≤Go.bits .xor .i64 x y:=by
 obtain⟨a,rfl⟩:=Int.eq_ofNat_of_zero_le hx
 obtain⟨b,rfl⟩:=Int.eq_ofNat_of_zero_le hy
 rw[(MJ a b (by omega) (by omega)).1]
 exact Int.natCast_nonneg _
theorem nH(x n:Int)(hx:0≤x)(hn:0<n):0≤Int.tmod x n∧Int.tmod x n<n:=by
 rw[Int.tmod_eq_emod_of_nonneg hx]
 exact⟨Int.emod_nonneg _ (by omega),Int.emod_lt_of_pos _ hn⟩
theorem yI(x n:Int)(hx:0≤x)(hn:0<n):0≤Int.tdiv x n∧Int.tdiv x n≤x:=by
 rw[Int.tdiv_eq_ediv_of_nonneg hx]
 exact⟨Int.ediv_nonneg hx (by omega),Int.ediv_le_self _ hx⟩
theorem Fy{a b:ByteArray}(h:a.data.toList=b.data.toList):a=b:=by
 cases a;cases b
 congr 1
 exact Array.toList_inj.1 h
theorem toList_data(a:ByteArray):a.toList=a.data.toList:=by
 have key:∀(n i:Nat)(r:List UInt8),n=a.size-i→i≤a.size→ByteArray.toList.loop a i r=r.reverse++a.data.toList.drop i:=by
  intro n
  induction n with
  |zero=>
   intro i r hn hi
   unfold ByteArray.toList.loop
   rw[if_neg (by omega),List.drop_of_length_le (by have:a.data.toList.length=a.size:=by rw[Array.length_toList];rfl
                                                   omega)]
   simp
  |succ n ih=>
   intro i r hn hi
   unfold ByteArray.toList.loop
   rw[if_pos (by omega),ih (i+1) _ (by omega) (by omega)]
   have hl:i<a.data.toList.length:=by rw[Array.length_toList];change i<a.size;omega
   rw[List.drop_eq_getElem_cons hl]
   simp[ByteArray.get!,Array.getElem!_eq_getD,Array.getD,show i<a.size by omega]
 have:=key (a.size-0) 0 [] rfl (by omega)
 simpa [ByteArray.toList]using this
theorem toList_inj{a b:ByteArray}:a.toList=b.toList↔a=b:=by
 constructor
 ·intro h;rw[toList_data,toList_data]at h;exact Fy h
 ·rintro rfl;rfl
theorem Fz(xs ys:List Int):strOfNums (xs++ys)=strOfNums xs++strOfNums ys:=by
 apply Fy;simp[strOfNums]
theorem El:strOfNums []=⟨#[]⟩:=rfl
theorem Hw(a:ByteArray):(⟨#[]⟩:ByteArray)++a=a:=by apply Fy;simp
theorem ng(a:ByteArray):a++(⟨#[]⟩:ByteArray)=a:=by apply Fy;simp
theorem lY:(⟨#[]⟩:ByteArray).size=0:=rfl
theorem aK(a b:ByteArray):(a++b).size=a.size+b.size:=by simp
theorem MK{xs:List Int}(h:Bytes xs):bytesOf (strOfNums xs)=xs:=by
 unfold bytesOf strOfNums
 rw[List.map_map]
 conv=>rhs;rw[←List.map_id xs]
 apply List.map_congr_left
 intro x hx
 have:=h x hx
 simp
 omega
theorem ML(a:ByteArray):strOfNums (bytesOf a)=a:=by
 apply Fy
 simp[strOfNums,bytesOf,List.map_map,Function.comp_def]
theorem FB(a:ByteArray)(i:Nat):bt a i=(bytesOf a).getD i 0:=by
 have:=QH a i
 unfold rd at this
 rw[←this];simp
theorem QR{xs:List Int}(h:Bytes xs)(i:Nat):bt (strOfNums xs) i=xs.getD i 0:=by rw[FB,MK h]
theorem gu(xs:List Int):(strOfNums xs).size=xs.length:=strOfNums_size xs
theorem QS:∀c:Fin 256,-1≤place (c.val:Int)∧place (c.val:Int)<39:=by decide+kernel
theorem MN(c:Int)(h0:0≤c)(h1:c<256): -1≤place c∧place c<39:=by
 obtain⟨n,rfl⟩:=Int.eq_ofNat_of_zero_le h0
 exact QS ⟨n,by omega⟩
theorem iG(a:ByteArray)(i:Int):0≤bt a i∧bt a i<256:=by have:=YC a i;omega
def jh(a:ByteArray):Bool:=decide (lX a)
theorem yJ(a:ByteArray):lX a↔a.size≤16∧∀i:Nat,i<a.size→0≤place (bt a i):=by
 unfold lX
 constructor
 ·rintro⟨h1,h2⟩;exact⟨h1,fun i hi=>(h2 i hi).1⟩
 ·rintro⟨h1,h2⟩;exact⟨h1,fun i hi=>⟨h2 i hi,(MN _ (iG a i).1 (iG a i).2).2⟩⟩
theorem JE{l l':List Int}(m:Nat)(h:l.take (8*m)=l'.take (8*m)):kZ l m=kZ l' m:=by
 induction m with
 |zero=>rfl
 |succ m ih=>
  have h1:l.take (8*m)=l'.take (8*m):=by
   have:=congrArg (List.take (8*m)) h
   rw[List.take_take,List.take_take,Nat.min_eq_left (by omega)]at this
   exact this
  have h2:(l.drop (8*m)).take 8=(l'.drop (8*m)).take 8:=by
   have:=congrArg (List.drop (8*m)) h
   rw[List.drop_take,List.drop_take,show 8*(m+1)-8*m=8 by omega]at this
   exact this
  rw[kZ,kZ,ih h1,h2]
theorem FC(a:ByteArray):(oG a).size=(jm (jv a a.size)).length/8:=by unfold oG;rw[gu,uJ]
theorem Dh{a:ByteArray}(hp:lX a):(oG a).size≤14:=by
 rw[FC]
 have h1:=Dg (jv a a.size)
 have h2:=uI a a.size
 have:=hp.1
 omega
def wrB(a:ByteArray):ByteArray:=if(oG a).size<a.size then strOfNums [128+((oG a).size:Int)]++oG a else strOfNums [(a.size:Int)]++a
def wr(a:ByteArray):ByteArray:=if jh a=true then wrB a else⟨#[]⟩
theorem MO{a:ByteArray}(h:jh a=true):lX a:=by simpa [jh]using h
theorem Xg{a:ByteArray}(h:lX a):jh a=true:=by simpa [jh]using h
def Bits(l:List Int):Prop:=∀x∈l,x=0∨x=1
theorem Bits.take{l:List Int}(h:Bits l)(n:Nat):Bits (l.take n):=fun x hx=>h x (List.mem_of_mem_take hx)
theorem Bits.drop{l:List Int}(h:Bits l)(n:Nat):Bits (l.drop n):=fun x hx=>h x (List.mem_of_mem_drop hx)
theorem Xh(s:List Int):∀a:Int,s.foldl (fun n b=>2*n+b) a=a*2^s.length+kg s:=by
 induction s with
 |nil=>intro a;simp[kg]
 |cons x s ih=>
  intro a
  simp only[List.foldl_cons,List.length_cons]
  rw[ih,show kg (x::s)=s.foldl (fun n b=>2*n+b) (2*0+x)from rfl,ih,Int.pow_succ,show 2*0+x=x by omega,Int.add_mul]
  rw[show 2*a*(2^s.length:Int)=a*(2^s.length*2) by rw[Int.mul_comm 2 a,Int.mul_assoc,Int.mul_comm 2]]
  omega
theorem Xi(x:Int)(s:List Int):kg (x::s)=x*2^s.length+kg s:=by
 rw[show kg (x::s)=s.foldl (fun n b=>2*n+b) (2*0+x)from rfl,Xh,show 2*0+x=x by omega]
theorem zD(s:List Int)(h:Bits s):0≤kg s∧kg s<2^s.length:=by
 have:=yH s h s.length (Nat.le_refl _)
 rwa[List.take_length]at this
theorem Xj(c y:Int)(m i:Nat)(h:i<m):Ig (c*2^m+y) i=Ig y i:=by
 unfold Ig
 have e:(2:Int)^m=2^(m-i-1)*2*2^i:=by
  rw[←Int.pow_succ,←Int.pow_add];congr 1;omega
 have hp:(0:Int)<2^i:=Int.pow_pos (by omega)
 rw[e,←Int.mul_assoc,Int.add_comm,Int.add_mul_ediv_right _ _ (by omega),←Int.mul_assoc]
 omega
theorem Xk(c y:Int)(m n:Nat)(h:n≤m):lJ (c*2^m+y) n=lJ y n:=by
 induction n with
 |zero=>rfl
 |succ n ih=>rw[lJ,lJ,ih (by omega),Xj _ _ _ _ (by omega)]
theorem FD(s:List Int)(h:Bits s):lJ (kg s) s.length=s:=by
 induction s with
 |nil=>rfl
 |cons x s ih=>
  have hs:Bits s:=fun y hy=>h y (List.mem_cons_of_mem _ hy)
  have hn:=zD s hs
  have hx:=h x (List.mem_cons_self)
  rw[List.length_cons,lJ,Xi,Xk _ _ _ _ (Nat.le_refl _),ih hs]
  congr 1
  unfold Ig
  rw[Int.add_comm,Int.add_mul_ediv_right _ _ (by have:=Int.pow_pos (n:=2) (m:=s.length) (by omega);omega),Int.ediv_eq_zero_of_lt hn.1 hn.2]
  omega
theorem Xl:∀c:Fin 256,kg (lJ (c.val:Int) 8)=(c.val:Int):=by decide+kernel
theorem YP(x:Int)(h0:0≤x)(h1:x<256):kg (lJ x 8)=x:=by
 obtain⟨n,rfl⟩:=Int.eq_ofNat_of_zero_le h0
 exact Xl ⟨n,by omega⟩
theorem oL(b:ByteArray)(n:Nat):(ko b n).length=8*n:=by
 induction n with
 |zero=>rfl
 |succ n ih=>rw[ko,List.length_append,ih,mK];omega
theorem FH(b:ByteArray)(n:Nat):Bits (ko b n):=by
 induction n with
 |zero=>intro x hx;cases hx
 |succ n ih=>
  intro x hx
  simp only[ko,List.mem_append]at hx
  rcases hx with hx|hx
  ·exact ih x hx
  ·exact QO _ _ x hx
theorem QT(l:List Int)(n m:Nat)(h:m<n):(kZ l n).getD m 0=kg ((l.drop (8*m)).take 8):=by
 induction n with
 |zero=>omega
 |succ n ih=>
  rw[kZ]
  by_cases e:m=n
  ·subst e
   simp[List.getD_eq_getElem?_getD,uJ]
  ·have:=ih (by omega)
   rw[List.getD_eq_getElem?_getD]at this ⊢
   rw[List.getElem?_append_left (by rw[uJ];omega),this]
theorem JF(l:List Int)(hl:Bits l)(n:Nat):Bytes (kZ l n):=by
 induction n with
 |zero=>intro x hx;cases hx
 |succ n ih=>
  intro x hx
  simp only[kZ,List.mem_append,List.mem_singleton]at hx
  rcases hx with hx|rfl
  ·exact ih x hx
  ·have h1:=zD _ ((hl.drop (8*n)).take 8)
   have h2:=a4h ((l.drop (8*n)).take 8).length (by rw[List.length_take];omega)
   omega
theorem QU(l:List Int)(hl:Bits l)(n m:Nat)(hm:m≤n)(h:8*n≤l.length):ko (strOfNums (kZ l n)) m=l.take (8*m):=by
 induction m with
 |zero=>simp[ko]
 |succ m ih=>
  rw[ko,ih (by omega),QR (JF l hl n),QT _ _ _ (by omega)]
  have hs:((l.drop (8*m)).take 8).length=8:=by rw[List.length_take,List.length_drop];omega
  have:=FD _ ((hl.drop (8*m)).take 8)
  rw[hs]at this
  rw[this,show 8*(m+1)=8*m+8 by omega,List.take_add]
theorem JG{l:List Int}(h:Bits l):Bits (jm l):=by
 intro x hx
 unfold jm at hx
 simp only[List.mem_append,List.mem_replicate]at hx
 rcases hx with hx|⟨_,rfl⟩
 ·exact h x hx
 ·exact .inr rfl
theorem QV(a:ByteArray):ko (oG a) (oG a).size=jm (jv a a.size):=by
 have h:=Dg (jv a a.size)
 rw[FC]
 unfold oG
 rw[QU _ (JG (YO a _)) _ _ (Nat.le_refl _) (by omega),List.take_of_length_le (by omega)]
theorem MP(b:ByteArray)(n:Nat)(h:n≤b.size):kZ (ko b n) n=(bytesOf b).take n:=by
 induction n with
 |zero=>rfl
 |succ n ih=>
  have hb:=iG b n
  rw[kZ,ko]
  rw[JE (l:=ko b n++lJ (bt b n) 8) (l':=ko b n) n (by rw[List.take_append_of_le_length (by rw[oL];omega)]),ih (by omega)]
  rw[List.drop_append_of_le_length (by rw[oL];omega),List.drop_of_length_le (by rw[oL];omega),List.nil_append,List.take_of_length_le (l:=lJ (bt b n) 8) (by rw[mK];omega),YP _ hb.1 hb.2]
  have hl:n<(bytesOf b).length:=by rw[bytesOf_length];omega
  rw[List.take_succ_eq_append_getElem hl,FB]
  simp[List.getD_eq_getElem?_getD,List.getElem?_eq_getElem hl]
theorem QW(b:ByteArray):strOfNums (kZ (ko b b.size) b.size)=b:=by
 rw[MP b _ (Nat.le_refl _),List.take_of_length_le (by rw[bytesOf_length];omega),ML]
def enc(ps:List Int):List Int:=ps.flatMap nQ
theorem MQ(p:Int)(ps:List Int):enc (p::ps)=nQ p++enc ps:=by simp[enc]
theorem akp(l:List Int)(h:Bits l)(hl:7≤l.length):4*kg (l.take 5)≤kg (l.take 7)∧kg (l.take 7)<4*kg (l.take 5)+4:=by
 have e:l.take 7=l.take 5++(l.drop 5).take 2:=by rw[show(7:Nat)=5+2 from rfl,List.take_add]
 have h2:((l.drop 5).take 2).length=2:=by rw[List.length_take,List.length_drop];omega
 have hb:Bits ((l.drop 5).take 2):=(h.drop 5).take 2
 rw[e]
 obtain⟨x,y,hxy⟩:∃x y,(l.drop 5).take 2=[x,y]:=by
  match hz:(l.drop 5).take 2,h2 with
  |[x,y],_=>exact⟨x,y,rfl⟩
 rw[hxy]at hb ⊢
 have hx:=hb x (by simp)
 have hy:=hb y (by simp)
 rw[show l.take 5++[x,y]=(l.take 5++[x])++[y] by simp,BF,BF]
 omega
theorem a4i(f:Nat):∀l:List Int,Bits l→l=enc (oK f l).1++(oK f l).2∧∀p∈(oK f l).1,0≤p∧p<39:=by
 induction f with
 |zero=>intro l _;exact⟨by simp[oK,enc],fun p hp=>by simp[oK]at hp⟩
 |succ f ih=>
  intro l hl
  rw[oK]
  by_cases h5:l.length<5
  ·rw[if_pos h5];exact⟨by simp[enc],fun p hp=>by simp at hp⟩
  ·rw[if_neg h5]
   have hn5:=zD _ (hl.take 5)
   by_cases h24:kg (l.take 5)<24
   ·rw[if_pos h24]
    obtain⟨i1,i2⟩:=ih (l.drop 5) (hl.drop 5)
    refine⟨?_,?_⟩
    ·dsimp only
     rw[MQ,List.append_assoc,←i1]
     unfold nQ
     rw[if_pos h24]
     have:=FD _ (hl.take 5)
     rw[List.length_take,Nat.min_eq_left (by omega)]at this
     rw[this,List.take_append_drop]
    ·intro p hp
     dsimp only at hp
     rcases List.mem_cons.1 hp with rfl|hp
     ·exact⟨hn5.1,by omega⟩
     ·exact i2 p hp
   ·rw[if_neg h24]
    by_cases h7:l.length<7
    ·rw[if_pos h7];exact⟨by simp[enc],fun p hp=>by simp at hp⟩
    ·rw[if_neg h7]
     have hn7:=akp l hl (by omega)
     by_cases h39:kg (l.take 7)-72≥39
     ·rw[if_pos h39];exact⟨by simp[enc],fun p hp=>by simp at hp⟩
     ·rw[if_neg h39]
      obtain⟨i1,i2⟩:=ih (l.drop 7) (hl.drop 7)
      refine⟨?_,?_⟩
      ·dsimp only
       rw[MQ,List.append_assoc,←i1]
       unfold nQ
       rw[if_neg (by omega),show 96+(kg (l.take 7)-72)-24=kg (l.take 7) by omega]
       have:=FD _ (hl.take 7)
       rw[List.length_take,Nat.min_eq_left (by omega)]at this
       rw[this,List.take_append_drop]
      ·intro p hp
       dsimp only at hp
       rcases List.mem_cons.1 hp with rfl|hp
       ·exact⟨by omega,by omega⟩
       ·exact i2 p hp
def places(a:ByteArray):Nat→List Int
 |0=>[]
 |n+1=>places a n++[place (bt a n)]
theorem uK(a:ByteArray)(n:Nat):(places a n).length=n:=by
 induction n with
 |zero=>rfl
 |succ n ih=>simp[places,ih]
theorem JH(a:ByteArray)(n:Nat):jv a n=enc (places a n):=by
 induction n with
 |zero=>rfl
 |succ n ih=>rw[jv,places,ih];simp[enc]
theorem QX(a:ByteArray)(n i:Nat)(h:i<n):(places a n).getD i 0=place (bt a i):=by
 induction n with
 |zero=>omega
 |succ n ih=>
  rw[places,List.getD_eq_getElem?_getD]
  by_cases e:i=n
  ·subst e;rw[List.getElem?_append_right (by rw[uK];omega),uK];simp
  ·rw[List.getElem?_append_left (by rw[uK];omega),←List.getD_eq_getElem?_getD,ih (by omega)]
theorem qH(a:ByteArray):(a.toList==([]:List UInt8))=decide (a.size=0):=by
 rw[toList_data]
 by_cases h:a.size=0
 ·rw[decide_eq_true h];simp;exact Array.eq_empty_of_size_eq_zero h
 ·rw[decide_eq_false h];simp;intro h2;apply h;change a.data.size=0;rw[h2];rfl
def unp(b:ByteArray):ByteArray×Bool:=if b.size>16 then(⟨#[]⟩,false)else if jh (Yt b)=true∧oG (Yt b)=b then(Yt b,true)else(⟨#[]⟩,false)
theorem BG:∀p:Fin 39,place (l5 (p.val:Int))=(p.val:Int):=by decide+kernel
theorem zF(p:Int)(h0:0≤p)(h1:p<39):place (l5 p)=p:=by
 obtain⟨n,rfl⟩:=Int.eq_ofNat_of_zero_le h0
 exact BG ⟨n,by omega⟩
theorem Di(o:List Int):Bytes (o.map l5):=by
 intro x hx
 obtain⟨p,_,rfl⟩:=List.mem_map.1 hx
 exact iG _ _
theorem QY(o:List Int)(ho:∀p∈o,0≤p∧p<39):places (strOfNums (o.map l5)) o.length=o:=by
 apply List.ext_getElem
 ·rw[uK]
 ·intro i h1 h2
  have hg:=QX (strOfNums (o.map l5)) o.length i h2
  rw[QR (Di o)]at hg
  rw[List.getD_eq_getElem?_getD,List.getElem?_eq_getElem h1,List.getD_eq_getElem?_getD,List.getElem?_map,List.getElem?_eq_getElem h2]at hg
  simp only[Option.getD_some,Option.map_some]at hg
  rw[hg]
  exact zF _ (ho _ (List.getElem_mem h2)).1 (ho _ (List.getElem_mem h2)).2
theorem map_ok(o:List Int)(ho:∀p∈o,0≤p∧p<39):lX (strOfNums (o.map l5))↔o.length≤16:=by
 rw[yJ,gu,List.length_map]
 constructor
 ·exact fun h=>h.1
 ·intro h
  refine⟨h,fun i hi=>?_⟩
  rw[QR (Di o),List.getD_eq_getElem?_getD,List.getElem?_map,List.getElem?_eq_getElem hi]
  simp only[Option.getD_some,Option.map_some]
  have:=ho _ (List.getElem_mem hi)
  rw[zF _ this.1 this.2]
  exact this.1
def JI(r:List Int):Prop:=∀x∈r,x=1
theorem YQ{r:List Int}(h:JI r):r=List.replicate r.length 1:=List.eq_replicate_iff.2 ⟨rfl,h⟩
theorem aei(b:ByteArray):
 (jh (Yt b)=true∧oG (Yt b)=b)↔(JI (oK 30 (ko b b.size)).2∧(oK 30 (ko b b.size)).2.length<8∧(oK 30 (ko b b.size)).1.length≤16):=by
 obtain⟨e,ho⟩:=a4i 30 (ko b b.size) (FH b _)
 have hl:=oL b b.size
 have hbb:=QW b
 unfold Yt
 generalize hB:ko b b.size=B at*
 generalize hd:oK 30 B=d at*
 obtain⟨o,r⟩:=d
 dsimp only at*
 have hpl:=QY o ho
 have hsz:(strOfNums (o.map l5)).size=o.length:=by rw[gu,List.length_map]
 have hpk:jv (strOfNums (o.map l5)) (strOfNums (o.map l5)).size=enc o:=by rw[JH,hsz,hpl]
 have hbits:ko (oG (strOfNums (o.map l5))) (oG (strOfNums (o.map l5))).size=jm (enc o):=by rw[QV,hpk]
 have hw:jh (strOfNums (o.map l5))=true↔o.length≤16:=by unfold jh;rw[decide_eq_true_iff,map_ok o ho]
 constructor
 ·rintro⟨h1,h2⟩
  rw[h2,hB]at hbits
  rw[e]at hbits
  unfold jm at hbits
  have hr:=List.append_cancel_left hbits
  refine⟨?_,?_,hw.1 h1⟩
  ·rw[hr];intro x hx;exact(List.mem_replicate.1 hx).2
  ·rw[hr,List.length_replicate];omega
 ·rintro⟨h1,h2,h3⟩
  refine⟨hw.2 h3,?_⟩
  have hr:=YQ h1
  have hlen:(enc o).length+r.length=8*b.size:=by rw[←hl,e,List.length_append]
  have hP:jm (enc o)=B:=by
   unfold jm
   rw[e,hr]
   congr 2
   omega
  unfold oG
  rw[hpk,hP,hl,show 8*b.size/8=b.size by omega,hbb]
theorem a4j{b w:ByteArray}(h:unp b=(w,true)):lX w∧oG w=b∧b.size≤16:=by
 unfold unp at h
 split at h
 ·cases h
 ·split at h
  ·rename_i h1 h2
   simp only[Prod.mk.injEq,and_true]at h
   rw[←h]
   exact⟨MO h2.1,h2.2,by omega⟩
  ·cases h
def body(b:ByteArray):ByteArray:=b.extract 1 (1+bt b 0%128).toNat
def FJ(b:ByteArray):ByteArray×Int×Bool:=
 if b.size=0 then(⟨#[]⟩,0,false)
 else if bt b 0%128>16∨1+bt b 0%128>b.size then(⟨#[]⟩,0,false)
 else if bt b 0≥128 then(if(unp (body b)).2=true then((unp (body b)).1,1+bt b 0%128,true)else(⟨#[]⟩,0,false))
 else if jh (body b)=true then(body b,1+bt b 0%128,true)else(⟨#[]⟩,0,false)
theorem head_size(x:Int)(b:ByteArray):(strOfNums [x]++b).size=1+b.size:=by
 rw[aK,gu];rfl
theorem BH{a:ByteArray}(hp:lX a):(wrB a).size≤17:=by
 have h14:=Dh hp
 have h16:=hp.1
 unfold wrB;split<;>(rw[head_size];omega)
theorem Ii(b:ByteArray)(h:1+bt b 0%128≤b.size):((body b).size:Int)=bt b 0%128:=by
 unfold body
 simp
 omega
theorem rd_true{b w:ByteArray}{u:Int}(h:FJ b=(w,u,true)):lX w∧1≤u∧u≤b.size∧((wrB w).size:Int)≤u:=by
 have h0:=iG b 0
 unfold FJ at h
 split at h
 ·cases h
 ·split at h
  ·cases h
  ·rename_i h1 h2
   have hbs:=Ii b (by omega)
   split at h
   ·split at h
    ·rename_i h3 h4
     rcases hu:unp (body b)with⟨x,t⟩
     rw[hu]at h h4
     dsimp only at h h4
     rw[h4]at hu
     obtain⟨q1,q2,q3⟩:=a4j hu
     simp only[Prod.mk.injEq,and_true]at h
     obtain⟨e1,e2⟩:=h
     subst e1 e2
     refine⟨q1,by omega,by omega,?_⟩
     rw[←q2]at hbs
     unfold wrB;split<;>(rw[head_size];omega)
    ·cases h
   ·split at h
    ·rename_i h3 h4
     simp only[Prod.mk.injEq,and_true]at h
     obtain⟨e1,e2⟩:=h
     subst e1 e2
     refine⟨MO h4,by omega,by omega,?_⟩
     unfold wrB;split<;>(rw[head_size];omega)
    ·cases h
theorem rd_false{b w:ByteArray}{u:Int}(h:FJ b=(w,u,false)):w=⟨#[]⟩∧u=0:=by
 unfold FJ at h
 split at h
 ·simp only[Prod.mk.injEq,and_true]at h;exact⟨h.1.symm,h.2.symm⟩
 ·split at h
  ·simp only[Prod.mk.injEq,and_true]at h;exact⟨h.1.symm,h.2.symm⟩
  ·split at h
   ·split at h
    ·simp at h
    ·simp only[Prod.mk.injEq,and_true]at h;exact⟨h.1.symm,h.2.symm⟩
   ·split at h
    ·simp at h
    ·simp only[Prod.mk.injEq,and_true]at h;exact⟨h.1.symm,h.2.symm⟩
def a4k(b:ByteArray)(r:Int×Int×Bool):Prop:=
 (b.size=0→r.2.2=false)∧(0<b.size→(bt b 0%128<127→r=(bt b 0%128,1,true))∧(bt b 0%128=127→r.2.2=true→r.1>16))
theorem jR(b:ByteArray):b.toList=([]:List UInt8)↔b.size=0:=by
 have h:=qH b
 constructor
 ·intro h1
  rw[h1]at h
  exact of_decide_eq_true h.symm
 ·intro h1
  rw[decide_eq_true h1]at h
  exact eq_of_beq h
end Go.Proofs.YtokblgdgpnakpaaGreat.Lm
namespace Go.Proofs.YtokblgdgpnakpaaGreatW.PrintLast
open Go.Proofs.YtokblgdgpnakpaaGreatW.PrintWords (ah)
def xg(md:Region.Mode)(o:Oper):List Nat:=(o.after.toList.filter (fun e=>Region.binds md e)).map (fun e=>e.on)
def JJ(md:Region.Mode)(ops:Array Oper)(i:Nat)(oi:Oper):List Nat:=(List.range ops.size).filter fun j=> !(j==i)&&match ops[j]? with
 |some oj=> !(oj.after.any (fun e=>Region.binds md e&&e.on==i)||oi.apart ops oj)
 |none=>false
def jG(md:Region.Mode)(ops:Array Oper):Bool×List (List Nat×List Nat):=(Region.noSelect ops,(List.range ops.size).map fun i=>match ops[i]? with
 |some o=>(xg md o,JJ md ops i o)
 |none=>([],[]))
def rM(T:List (List Nat×List Nat))(l:List Bool)(i:Nat):Bool:= !l.getD i true&&match T[i]? with
 |some r=>r.1.all (fun j=>l.getD j false)
 |none=>false
def BI(T:List (List Nat×List Nat))(l:List Bool):List Nat:=(List.range T.length).filter (rM T l)
def MR(T:List (List Nat×List Nat))(l:List Bool)(i:Nat):Bool:=match T[i]? with
 |some r=>r.2.all (fun j=>l.getD j true)
 |none=>false
def Em(T:List (List Nat×List Nat))(l:List Bool):Bool:=(List.range T.length).all fun j=> !l.getD j false||match T[j]? with
 |some r=>r.1.all (fun k=>l.getD k false)
 |none=>true
def BJ(T:List (List Nat×List Nat))(i:Nat):Nat→Nat→Bool
 |0,_=>false
 |fuel+1,d=>match T[d]? with
  |some r=>r.1.any fun j=>j==i||BJ T i fuel j
  |none=>false
def lastT(T:List (List Nat×List Nat))(l:List Bool)(ds:List Nat)(i:Nat):Bool:=ds.all fun d=>l.getD d true||BJ T i T.length d
section
variable {md:Region.Mode} {ops:Array Oper} {T:Bool×List (List Nat×List Nat)} {l l' li lj lk:Array Bool} {ds:List Nat} {i j k:Nat}
theorem gd(l:Array Bool)(j:Nat)(b:Bool):l.getD j b=l.toList.getD j b:=by simp[Array.getD_eq_getD_getElem?,List.getD_eq_getElem?_getD]
theorem Ij(o:Oper)(p:Nat→Bool):o.after.all (fun e=> !Region.binds md e||p e.on)=(xg md o).all p:=by
 unfold xg
 rw[←Array.all_toList]
 induction o.after.toList with
 |nil=>rfl
 |cons e r ih=>
  rw[List.all_cons,ih,List.filter_cons]
  cases h:Region.binds md e<;>simp
theorem Xm(o:Oper)(p:Nat→Bool):o.after.any (fun e=>Region.binds md e&&p e.on)=(xg md o).any p:=by
 unfold xg
 rw[←Array.any_toList]
 induction o.after.toList with
 |nil=>rfl
 |cons e r ih=>
  rw[List.any_cons,ih,List.filter_cons]
  cases h:Region.binds md e<;>simp
theorem rO:(jG md ops).2.length=ops.size:=by simp[jG]
theorem xh{o:Oper}(h:ops[i]?=some o):(jG md ops).2[i]?=some (xg md o,JJ md ops i o):=by
 have hi:=(Array.getElem?_eq_some_iff.1 h).1
 unfold jG
 rw[List.getElem?_map,List.getElem?_range hi,Option.map_some,h]
theorem xk(h:ops[i]?=none):(jG md ops).2[i]?=none:=by
 have hi:ops.size≤i:=Array.getElem?_eq_none_iff.1 h
 exact List.getElem?_eq_none (by rw[rO];exact hi)
theorem QZ:rM (jG md ops).2 l.toList i=(!l.getD i true&&((ops[i]?).map (·.after.all fun e=> !Region.binds md e||l.getD e.on false)).getD false):=by
 unfold rM
 rw[gd]
 cases h:ops[i]? with
 |none=>rw[xk h];rfl
 |some o=>
  rw[xh h]
  simp only[Option.map_some,Option.getD_some]
  rw[←Ij]
  simp only[gd]
theorem ready_eq:Region.ready md ops l=BI (jG md ops).2 l.toList:=by
 unfold Region.ready BI
 rw[rO]
 refine List.filter_congr (fun i _=>?_)
 rw[QZ]
theorem free_eq:Region.free md ops l i=MR (jG md ops).2 l.toList i:=by
 unfold Region.free MR
 cases h:ops[i]? with
 |none=>rw[xk h]
 |some oi=>
  rw[xh h]
  simp only[JJ]
  rw[List.all_filter]
  congr 1
  funext j
  rw[gd]
  cases hj:ops[j]? with
  |none=>cases(j==i)<;>cases(l.toList.getD j true)<;>simp
  |some oj=>
   cases(j==i)<;>cases(l.toList.getD j true)<;>cases(oj.after.any (fun e=>Region.binds md e&&e.on==i)||oi.apart ops oj)<;>simp_all
theorem Xn:Region.closedB md ops l=Em (jG md ops).2 l.toList:=by
 unfold Region.closedB Em
 rw[rO]
 congr 1
 funext j
 rw[gd]
 cases h:ops[j]? with
 |none=>rw[xk h]
 |some o=>
  rw[xh h]
  simp only
  rw[←Ij]
  simp only[gd]
theorem MS:∀(fuel d:Nat),Region.reachB md ops i fuel d=BJ (jG md ops).2 i fuel d
 |0,_=>rfl
 |fuel+1,d=>by
  unfold Region.reachB BJ
  cases h:ops[d]? with
  |none=>rw[xk h]
  |some o=>
   rw[xh h]
   simp only
   rw[←Xm]
   congr 1
   funext e
   rw[MS fuel]
theorem a4l:Region.lastB md ops l ds i=lastT (jG md ops).2 l.toList ds i:=by
 unfold Region.lastB lastT
 rw[rO]
 congr 1
 funext d
 rw[gd,MS]
theorem Dj(h:rM T.2 l.toList i=true)(hT:jG md ops=T):(Region.ready md ops l).contains i=true:=by
 subst hT
 rw[ready_eq]
 unfold BI
 rw[List.contains_iff_mem,List.mem_filter,List.mem_range]
 refine⟨?_,h⟩
 unfold rM at h
 rw[Bool.and_eq_true]at h
 cases hq:(jG md ops).2[i]? with
 |none=>rw[hq]at h;simp at h
 |some r=>exact(List.getElem?_eq_some_iff.1 hq).1
theorem FL(h:(l.toList.set i true==l'.toList)=true):(l.setIfInBounds i true==l')=true:=by
 rw[beq_iff_eq]at h ⊢
 apply Array.ext'
 rw[Array.toList_setIfInBounds]
 exact h
def akq(T:Bool×List (List Nat×List Nat))(l l':List Bool)(i:Nat):Bool:=T.1&&MR T.2 l i&&rM T.2 l i&&(l.set i true==l')
theorem JK(hT:jG md ops=T)(h:akq T l.toList l'.toList i=true):ME md ops l l' i=true:=by
 simp only[akq,Bool.and_eq_true]at h
 obtain⟨⟨⟨h1,h2⟩,h3⟩,h4⟩:=h
 have h5:=Dj h3 hT
 have h6:=FL h4
 subst hT
 simp only[ME,Bool.and_eq_true]
 exact⟨⟨⟨h1,by rw[free_eq];exact h2⟩,h5⟩,h6⟩
def YR(T:Bool×List (List Nat×List Nat))(ds:List Nat)(l l':List Bool)(i:Nat):Bool:=T.1&&MR T.2 l i&&rM T.2 l i&&Em T.2 l&&lastT T.2 l ds i&&(l.set i true==l')
theorem a4m(hT:jG md ops=T)(h:YR T ds l.toList l'.toList i=true):takeB md ops ds l l' i=true:=by
 simp only[YR,Bool.and_eq_true]at h
 obtain⟨⟨⟨⟨⟨h1,h2⟩,h3⟩,h4⟩,h5⟩,h6⟩:=h
 have h7:=Dj h3 hT
 have h8:=FL h6
 subst hT
 simp only[takeB,Bool.and_eq_true]
 exact⟨⟨⟨⟨⟨h1,by rw[free_eq];exact h2⟩,h7⟩,by rw[Xn];exact h4⟩,by rw[a4l];exact h5⟩,h8⟩
theorem eG(hT:jG md ops=T)(h:(BI T.2 l.toList==[i]&&l.toList.set i true==l'.toList)=true):vT md ops l l' i=true:=by
 simp only[Bool.and_eq_true]at h
 obtain⟨h1,h2⟩:=h
 subst hT
 simp only[vT,Bool.and_eq_true]
 exact⟨by rw[ready_eq];exact h1,FL h2⟩
theorem R3(hT:jG md ops=T)(h:(BI T.2 l.toList==[i,j]&&l.toList.set i true==li.toList&&l.toList.set j true==lj.toList)=true):(Region.ready md ops l==[i,j]&&l.setIfInBounds i true==li&&l.setIfInBounds j true==lj)=true:=by
 simp only[Bool.and_eq_true]at h ⊢
 obtain⟨⟨h1,h2⟩,h3⟩:=h
 subst hT
 exact⟨⟨by rw[ready_eq];exact h1,FL h2⟩,FL h3⟩
theorem jC(hT:jG md ops=T)(h:(BI T.2 l.toList==[])=true):(Region.ready md ops l==[])=true:=by
 subst hT
 rw[ready_eq]
 exact h
def upM(B:List Nat)(d:Nat):List Nat→Nat
 |[]=>0
 |n::r=>(2^n|||(if n<d then B.getD n 0 else 0))|||upM B d r
def fQ(T:List (List Nat×List Nat))(B:List Nat):Bool:=(List.range T.length).all fun d=>match T[d]? with
 |some r=>(B.getD d 0|||upM B d r.1)==upM B d r.1
 |none=>false
theorem TK{B:List Nat}{d i:Nat}:∀{ns:List Nat},(upM B d ns).testBit i=true→∃n∈ns,n=i∨(n<d∧(B.getD n 0).testBit i=true)
 |[],h=>by simp[upM]at h
 |n::r,h=>by
  unfold upM at h
  rw[Nat.testBit_or,Nat.testBit_or,Bool.or_eq_true,Bool.or_eq_true]at h
  rcases h with(h|h)|h
  ·rw[Nat.testBit_two_pow]at h
   exact⟨n,List.mem_cons_self,.inl (by simpa using h)⟩
  ·by_cases hn:n<d
   ·rw[if_pos hn]at h
    exact⟨n,List.mem_cons_self,.inr ⟨hn,h⟩⟩
   ·rw[if_neg hn]at h
    simp at h
  ·obtain⟨m,hm,h2⟩:=TK h
   exact⟨m,List.mem_cons_of_mem _ hm,h2⟩
theorem Ik{T:List (List Nat×List Nat)}{B:List Nat}(hB:fQ T B=true):∀(fuel d:Nat),d<fuel→d<T.length→(B.getD d 0).testBit i=true→BJ T i fuel d=true
 |0,d,h,_,_=>by omega
 |fuel+1,d,h,hd,hb=>by
  have h1:=List.all_eq_true.1 hB d (List.mem_range.2 hd)
  cases hr:T[d]? with
  |none=>rw[hr]at h1;simp at h1
  |some r=>
   rw[hr]at h1
   simp only[beq_iff_eq]at h1
   have h2:(upM B d r.1).testBit i=true:=by rw[←h1,Nat.testBit_or,hb,Bool.true_or]
   obtain⟨n,hn,h3⟩:=TK h2
   unfold BJ
   rw[hr]
   simp only
   rw[List.any_eq_true]
   refine⟨n,hn,?_⟩
   rcases h3 with rfl|⟨h4,h5⟩
   ·simp
   ·rw[Ik hB fuel n (by omega) (by omega) h5,Bool.or_true]
def abF(T:List (List Nat×List Nat))(B:List Nat)(l:List Bool)(ds:List Nat)(i:Nat):Bool:=ds.all fun d=>l.getD d true||(decide (d<T.length)&&(B.getD d 0).testBit i)
def abG(T:Bool×List (List Nat×List Nat))(B:List Nat)(ds:List Nat)(l l':List Bool)(i:Nat):Bool:=T.1&&MR T.2 l i&&rM T.2 l i&&Em T.2 l&&abF T.2 B l ds i&&(l.set i true==l')
theorem qI{B:List Nat}(hT:jG md ops=T)(hB:fQ T.2 B=true)(h:abG T B ds l.toList l'.toList i=true):takeB md ops ds l l' i=true:=by
 refine a4m hT ?_
 simp only[abG,YR,Bool.and_eq_true]at h ⊢
 obtain⟨⟨⟨⟨⟨h1,h2⟩,h3⟩,h4⟩,h5⟩,h6⟩:=h
 refine⟨⟨⟨⟨⟨h1,h2⟩,h3⟩,h4⟩,?_⟩,h6⟩
 unfold abF at h5
 unfold lastT
 rw[List.all_eq_true]at h5 ⊢
 intro d hd
 have h7:=h5 d hd
 rw[Bool.or_eq_true,Bool.and_eq_true,decide_eq_true_eq]at h7
 rcases h7 with h7|⟨h8,h9⟩
 ·rw[h7,Bool.true_or]
 ·rw[Ik hB _ d h8 h8 h9,Bool.or_true]
theorem bK{P:Program}{Q:Exit→Act→World→Prop}{S:World→Prop}{n:Nat}{a:Act}{w:World}{B:List Nat}(hT:jG md ops=T)(hB:fQ T.2 B=true)(h:ah (jG md ops=T)→ah (fQ T.2 B=true)→bJ P md ops Q S ds n l a w):bJ P md ops Q S ds n l a w:=h ⟨hT⟩ ⟨hB⟩
end
def yu:Code→Nat→Option (Array Oper)
 |.region id ops _,k=>if id==k then some ops else none
 |.seq a b,k=>match yu a k with
  |some o=>some o
  |none=>yu b k
 |.cond _ a b,k=>match yu a k with
  |some o=>some o
  |none=>yu b k
 |.block _ c,k=>yu c k
 |.loop c,k=>yu c k
 |.scope c,k=>yu c k
 |.rangeFunc _ _ a b,k=>match yu a k with
  |some o=>some o
  |none=>yu b k
 |_,_=>none
def opsOf(f:Func)(k:Nat):Array Oper:=((f.body.bind fun c=>yu c k)).getD #[]
end Go.Proofs.YtokblgdgpnakpaaGreatW.PrintLast
namespace Go.Proofs.YtokblgdgpnakpaaGreatW.PrintLast
def up(b:Nat→Bool)(i:Nat):Nat→Bool:=fun j=>if j=i then true else b j
end Go.Proofs.YtokblgdgpnakpaaGreatW.PrintLast
