/- FnEndLess holds: part 4 of a proof that the given program meets it (printed texts and walks of our own, made short by a program). No condition. -/
import Derived.Test.YtokblgdgpnakpaaGreatQ03
set_option linter.unusedVariables false
set_option linter.unusedSimpArgs false
set_option maxHeartbeats 8000000
set_option maxRecDepth 100000
namespace Go.Proofs.YtokblgdgpnakpaaGreat.PFnEndLess
open Go.RowKit Go.Proofs.YtokblgdgpnakpaaGreatW.PrintWords Go.Proofs.YtokblgdgpnakpaaGreatW.PrintLast Go.Proofs.YtokblgdgpnakpaaGreatW.PrintMore Go.Proofs.YtokblgdgpnakpaaGreat.Lm
attribute [local go_sem] bF bD cZ d9 aY aX bH bI
def bQ.f(k:Nat)(aH:List (bg))(aA:Int)(a1:ByteArray):Option ((List (bg))×Int×ByteArray×ByteArray×Bool×Int×Bool):=if 0<(a1.size:Int)then(if(bt a1 0)≥128 then((aI.f k a1 7).bind fun Ah=>((kF.f aH aA Ah.1).bind fun qI=>(if Ah.2.2=true then(some (aH,aA,qI.1,qI.2.1,qI.2.2.1,Ah.2.1,qI.2.2.2))else(some (aH,aA,qI.1,qI.2.1,qI.2.2.1,Ah.2.1,false)))))else(if(bt a1 0)≥64 then((gU.f k aH aA a1 6).bind fun mh=>(if mh.2.2.2.2=true then((dS.f k aH aA mh.1 mh.2.1 mh.2.2.1).bind fun Oe=>(some (Oe.1,Oe.2,mh.1,mh.2.1,mh.2.2.1,mh.2.2.2.1,true)))else(some (aH,aA,mh.1,mh.2.1,mh.2.2.1,0,false))))else((cK.f (wrap64 (bt a1 0)) 16 31).bind fun a1l=>(if a1l=true then((gU.f k aH aA a1 4).bind fun Ai=>(some (aH,aA,Ai.1,Ai.2.1,true,Ai.2.2.2.1,Ai.2.2.2.2)))else(some (aH,aA,(⟨#[]⟩:ByteArray),(⟨#[]⟩:ByteArray),false,0,false))))))else(none)
theorem bQ.mono:∀a0 a1 a2 k,gV (bQ.f k a0 a1 a2) (bQ.f (k+1) a0 a1 a2):=by
 intro a0 a1 a2 k
 unfold bQ.f
 have m0:=@gU.mono
 have m1:=@aI.mono
 have m2:=@dS.mono
 exact zm
def bQ.T4:Bool×List (List Nat×List Nat):=(true,[([],[]),([],[]),([],[]),([],[]),([3],[3]),([4],[4]),([4,5],[4,5]),([0,4,0],[0]),([1,7,0,1,7],[1]),([2,8,0,1,2,7,8],[2]),([6,9,0,1,2,3,4,5,6,7,8,9],[6])])
def bQ.B4:List Nat:=[0,0,0,0,8,24,56,25,155,415,1023]
theorem bQ.tab4:jm .any (opsOf Tryz.f111 4)=bQ.T4:=by kernel_rfl
theorem bQ.bits4:fQ bQ.T4.2 bQ.B4=true:=by kernel_rfl
def bQ.T9:Bool×List (List Nat×List Nat):=(true,[([],[]),([],[]),([0,1],[0,1]),([],[]),([],[]),([2,2,0,1,2],[2]),([3,5,0,1,2,3,5],[3]),([4,6,0,1,2,3,4,5,6],[4]),([7,0,1,2,3,4,5,6,7],[])])
def bQ.B9:List Nat:=[0,0,3,0,0,7,47,127,255]
theorem bQ.tab9:jm .any (opsOf Tryz.f111 9)=bQ.T9:=by kernel_rfl
theorem bQ.bits9:fQ bQ.T9.2 bQ.B9=true:=by kernel_rfl
def bQ.T13:Bool×List (List Nat×List Nat):=(true,[([],[]),([],[]),([],[]),([],[]),([0,0],[0]),([1,4,0,1,4],[1]),([2,5,0,1,2,4,5],[2]),([3,6,0,1,2,3,4,5,6],[3])])
def bQ.B13:List Nat:=[0,0,0,0,1,19,55,127]
theorem bQ.tab13:jm .any (opsOf Tryz.f111 13)=bQ.T13:=by kernel_rfl
theorem bQ.bits13:fQ bQ.T13.2 bQ.B13=true:=by kernel_rfl
theorem bQ.calls(k:Nat)(ji:Nat→Prop)(kW:Value)(aH:List (bg))(aA:Int)(a1:ByteArray)(r1:List (bg))(r2:Int)(r3:ByteArray)(r4:ByteArray)(r5:Bool)(r6:Int)(r7:Bool)(w0 w:World)(hB:Below w0.heap.size w0 w)(EZ:Kd.R iF 89 w w0.heap.size ji kW aH)(h:bQ.f k aH aA a1=some (r1,r2,r3,r4,r5,r6,r7)):
 Calls Tryz.prog 111 #[.agg #[kW,.int .i64 aA],.string a1] w fun e w'=>∃vk:Value,e= .returned (.tuple #[.agg #[vk,.int .i64 r2],.agg #[.string r3,.string r4,.bool r5],.int .i64 r6,.bool r7])∧Kd.R iF 89 w' w0.heap.size (fun k_=>(ji k_∨w.heap.size≤k_)) vk r1∧Below w0.heap.size w0 w'∧Kept w w' (fun _=>False):=by
 have zB:=Tryz.underlying25
 have rZ:=Tryz.underlying89
 have bC:=ah.mk (show Kd.R iF 89 w w0.heap.size (fun k_=>(ji k_∨w.heap.size≤k_)) kW aH from Kd.R_mono EZ (fun k_ hk=>(.inl hk)))
 have HK:=ah.mk (Kept.refl w (fun _=>False))
 have HW0:=ah.mk hB.size
 have HB:=ah.mk hB
 clear hB
 have H:(if 0<(a1.size:Int)then(if(bt a1 0)≥128 then((aI.f k a1 7).bind fun Ah=>((kF.f aH aA Ah.1).bind fun qI=>(if Ah.2.2=true then(some (aH,aA,qI.1,qI.2.1,qI.2.2.1,Ah.2.1,qI.2.2.2))else(some (aH,aA,qI.1,qI.2.1,qI.2.2.1,Ah.2.1,false)))))else(if(bt a1 0)≥64 then((gU.f k aH aA a1 6).bind fun mh=>(if mh.2.2.2.2=true then((dS.f k aH aA mh.1 mh.2.1 mh.2.2.1).bind fun Oe=>(some (Oe.1,Oe.2,mh.1,mh.2.1,mh.2.2.1,mh.2.2.2.1,true)))else(some (aH,aA,mh.1,mh.2.1,mh.2.2.1,0,false))))else((cK.f (wrap64 (bt a1 0)) 16 31).bind fun a1l=>(if a1l=true then((gU.f k aH aA a1 4).bind fun Ai=>(some (aH,aA,Ai.1,Ai.2.1,true,Ai.2.2.2.1,Ai.2.2.2.2)))else(some (aH,aA,(⟨#[]⟩:ByteArray),(⟨#[]⟩:ByteArray),false,0,false))))))else(none))=some (r1,r2,r3,r4,r5,r6,r7):=h
 clear h
 replace H:=sp H
 rcases H with⟨c3,H⟩|⟨c3,H⟩
 ·skip
  have c3b0:=decide_eq_true c3
  have c3b1:=decide_eq_true (by omega)
  clear c3
  have YT:=ah.mk H
  clear H
  obtain⟨Aj,Ak,eo6⟩:=Kd.R_slice bC.out
  subst eo6
  go_enter Tryz.func111,Tryz.ntmps111
  go_upto_if 19 with(first|((with_reducible refine gd 2 rfl ?_);refine bx (N:=2) (cs:=#[.slice Aj aH.length Ak,.int .i64 aA]) (t:=25) ?_;intro vS hg w7 hbox hb;replace bC:=ah.mk (Kd.R_below (zr bC) hb);have dU:=ah.mk (hbox);have Og:=ah.mk ((by rw[hg];exact(kz (w:=w)).1:w.heap.size≤vS));replace HK:=kq hb;have aLJ:=ah.mk ((by rw[hg];exact(aJ (zb HB)):w0.heap.size≤vS));replace HB:=ah.mk (ai (zb HB) hb);clear hb hbox hg)|((with_reducible refine gd 4 rfl ?_);refine bx (N:=4) (cs:=#[.slice none 0 0,.int .i64 0]) (t:=25) ?_;intro dY hg w8 hbox hb;replace bC:=ah.mk (Kd.R_below (zr bC) hb);have dD:=ah.mk (hbox);have Oh:=ah.mk ((by rw[hg];exact(kz (w:=w)).1:w.heap.size≤dY));replace HK:=kq hb;have aLK:=ah.mk ((by rw[hg];exact(aJ (zb HB)):w0.heap.size≤dY));replace HB:=ah.mk (ai (zb HB) hb);obtain⟨dQ,jb⟩:=nb dU hg;replace dU:=kb dU hb;clear hb hbox hg)|((with_reducible refine gd 5 rfl ?_);refine bx (N:=5) (cs:=#[.string (⟨#[]⟩:ByteArray),.string (⟨#[]⟩:ByteArray),.bool false]) (t:=89) ?_;intro bT hg w9 hbox hb;replace bC:=ah.mk (Kd.R_below (Kd.R_elderB (zr bC) bT (Nat.le_of_eq hg.symm)) hb);have dA:=ah.mk (hbox);have Oi:=ah.mk ((by rw[hg];exact(kz (w:=w)).1:w.heap.size≤bT));replace HK:=kq hb;have aLL:=ah.mk ((by rw[hg];exact(aJ (zb HB)):w0.heap.size≤bT));replace HB:=ah.mk (ai (zb HB) hb);obtain⟨bW,gN⟩:=nb dU hg;replace dU:=kb dU hb;obtain⟨fA,fB⟩:=nb dD hg;replace dD:=kb dD hb;clear hb hbox hg;have p4:0≤(0:Int):=(by omega);have q4:0<a1.size:=(by have:(0:Int)<(a1.size:Int):=of_decide_eq_true za;omega);have hx4:∀h:0<a1.size,((a1[0]'h).toNat:Int)=bt a1 0:=gB a1 0;clear p4;have qi4:(0<(a1.size:Int))=True:=eq_true (of_decide_eq_true za);replace q4:=eq_true q4))
  (try simp only[Act.put,s1,s2,s3])
  have H:=YT.out
  clear YT
  by_cases c10:(bt a1 0)≥128
  ·rw[if_pos c10]at H
   have c10b0:=decide_eq_true c10
   clear c10
   (first|rw[c10b0]|rw[c10b1]|rw[c10b2]|(simp only[iC,iQ];rw[c10b0])|skip)
   obtain⟨⟨XB,anm,aCy⟩,A11,H⟩:=ob H
   (try dsimp only at H)
   obtain⟨⟨qY,qZ,rf,ann⟩,Xi,H⟩:=ob H
   (try dsimp only at H)
   by_cases c13:aCy=true
   ·subst c13
    rw[if_pos rfl]at H
    simp only[Option.some.injEq,Prod.mk.injEq]at H
    obtain⟨rfl,rfl,rfl,rfl,rfl,rfl,rfl⟩:=H
    try go_wp2_with (first|((with_reducible refine gq 116 rfl ?_);refine gl (some 25) Tryz.func116 #[.string a1,.int .i64 7] ?_;(with_reducible refine(aI.calls k a1 7 XB anm true _ A11.out).mono ?_);rintro e w' ⟨rfl,⟨nd,rfl⟩⟩;refine⟨_,rfl,?_⟩;(try(rw[ug w9];generalize dK:World.drewN w9 _=w9;have sV:ah (Kd.R iF 89 w9 w0.heap.size (fun k_=>(ji k_∨w.heap.size≤k_)∧k_≠bT) (.slice Aj aH.length Ak) aH):=⟨by rw[←dK];exact(zr bC)⟩;have sW:ah (w9.heap[vS]?=some (.cells #[.slice Aj aH.length Ak,.int .i64 aA] 25 (0,0))):=⟨by rw[←dK];exact(zk dU)⟩;have uS:ah (w9.heap[dY]?=some (.cells #[.slice none 0 0,.int .i64 0] 25 (0,0))):=⟨by rw[←dK];exact(zk dD)⟩;have uT:ah (w9.heap[bT]?=some (.cells #[.string (⟨#[]⟩:ByteArray),.string (⟨#[]⟩:ByteArray),.bool false] 89 (0,0))):=⟨by rw[←dK];exact(zk dA)⟩;have wR:ah (Kept w w9 (fun _=>False)):=⟨by rw[←dK];exact(by repeat(first|(with_reducible first|exact HK.out|apply Kept.alloc|apply Kept.drewN|apply Kept.drew|refine Kept.setCell ?_ (.inr Og.out) _|refine Kept.setCell ?_ (.inr Oh.out) _|refine Kept.setCell ?_ (.inr Oi.out) _)|exact HK.out))⟩;have wS:ah (Below w0.heap.size w0 w9):=⟨by rw[←dK];exact(zb HB)⟩;clear bC dU dD dA HK HB dK;have bC:=sV;have dU:=sW;have dD:=uS;have dA:=uT;have HK:=wR;have HB:=wS;clear sV sW uS uT wR wS));have ami:=dQ.out;have amj:=jb.out;have ano:=bW.out;have anp:=gN.out;obtain⟨JA,JB,JC,JD⟩:=c2 dU)|((with_reducible refine gq 117 rfl ?_);refine gl (some 32) Tryz.func117 #[.agg #[.slice Aj aH.length Ak,.int .i64 aA],.int .i64 XB] ?_;(with_reducible refine(kF.calls _ _ aH aA XB qY qZ rf ann _ ?aN ?aQ Xi.out).mono ?_);(case aN=>exact zc (Kd.R_reads' bC.out).2.2);(case aQ=>exact(Kd.R_reads' bC.out).2.1);rintro e w17 ⟨rfl,hb⟩;refine⟨_,rfl,?_⟩;replace bC:=ah.mk (Kd.R_below (zr bC) hb);replace dU:=kb dU hb;replace dD:=kb dD hb;replace dA:=kb dA hb;replace HK:=kq hb;replace HB:=ah.mk (ai (zb HB) hb);(try clear hb))|((with_reducible refine gd 11 rfl ?_);refine bx (N:=11) (cs:=#[.string (⟨#[]⟩:ByteArray),.string (⟨#[]⟩:ByteArray),.bool false]) (t:=89) ?_;intro fE hg UG hbox hb;replace bC:=ah.mk (Kd.R_below (Kd.R_elderB (zr bC) fE (Nat.le_of_eq hg.symm)) hb);have pz:=ah.mk (hbox);have anq:=ah.mk ((by rw[hg];exact(kz (w:=w)).1:w.heap.size≤fE));replace HK:=kq hb;have anr:=ah.mk ((by rw[hg];exact(aJ (zb HB)):w0.heap.size≤fE));replace HB:=ah.mk (ai (zb HB) hb);obtain⟨BN,BO⟩:=nb dU hg;replace dU:=kb dU hb;obtain⟨oF,ic⟩:=nb dD hg;replace dD:=kb dD hb;obtain⟨mH,fo⟩:=nb dA hg;replace dA:=kb dA hb;clear hb hbox hg;have ant:=BO.out;have anu:=BN.out;have aLM:=ic.out;have aLN:=oF.out;have acB:=fo.out;have acC:=mH.out;obtain⟨TP,TQ,a4v,TR,TT,a4w⟩:=c3 pz))
    have sV:ah (Kd.R iF 89 (((UG.setCell ⟨fE,0,none⟩ (.string qY)).setCell ⟨fE,1,none⟩ (.string qZ)).setCell ⟨fE,2,none⟩ (.bool rf)) w0.heap.size (fun k_=>(ji k_∨w.heap.size≤k_)∧k_≠bT∧k_≠fE) (.slice Aj aH.length Ak) aH):=⟨(Kd.R_mono (qb (Kd.R_mono bC.out (fun k_ hk=>(⟨hk,hk.2⟩:_∧k_≠fE)))) (fun _ hk=>⟨hk.1.1.1,⟨hk.1.1.2,hk.1.2⟩⟩))⟩
    have sW:ah ((((UG.setCell ⟨fE,0,none⟩ (.string qY)).setCell ⟨fE,1,none⟩ (.string qZ)).setCell ⟨fE,2,none⟩ (.bool rf)).heap[vS]?=some (.cells #[.slice Aj aH.length Ak,.int .i64 aA] 25 (0,0))):=⟨zp dU⟩
    have uS:ah ((((UG.setCell ⟨fE,0,none⟩ (.string qY)).setCell ⟨fE,1,none⟩ (.string qZ)).setCell ⟨fE,2,none⟩ (.bool rf)).heap[dY]?=some (.cells #[.slice none 0 0,.int .i64 0] 25 (0,0))):=⟨zp dD⟩
    have uT:ah ((((UG.setCell ⟨fE,0,none⟩ (.string qY)).setCell ⟨fE,1,none⟩ (.string qZ)).setCell ⟨fE,2,none⟩ (.bool rf)).heap[bT]?=some (.cells #[.string (⟨#[]⟩:ByteArray),.string (⟨#[]⟩:ByteArray),.bool false] 89 (0,0))):=⟨zp dA⟩
    have wR:ah ((((UG.setCell ⟨fE,0,none⟩ (.string qY)).setCell ⟨fE,1,none⟩ (.string qZ)).setCell ⟨fE,2,none⟩ (.bool rf)).heap[fE]?=some (.cells #[.string qY,.string qZ,.bool rf] 89 (0,0))):=⟨zp pz⟩
    have wS:ah (Kept w (((UG.setCell ⟨fE,0,none⟩ (.string qY)).setCell ⟨fE,1,none⟩ (.string qZ)).setCell ⟨fE,2,none⟩ (.bool rf)) (fun _=>False)):=⟨kz⟩
    have Gg:ah (Below w0.heap.size w0 (((UG.setCell ⟨fE,0,none⟩ (.string qY)).setCell ⟨fE,1,none⟩ (.string qZ)).setCell ⟨fE,2,none⟩ (.bool rf))):=⟨zb HB⟩
    (try clear bC)
    (try clear dU)
    (try clear dD)
    (try clear dA)
    (try clear pz)
    (try clear HK)
    (try clear HB)
    generalize(((UG.setCell ⟨fE,0,none⟩ (.string qY)).setCell ⟨fE,1,none⟩ (.string qZ)).setCell ⟨fE,2,none⟩ (.bool rf))=w23 at sV sW uS uT wR wS Gg ⊢
    have bC:=sV
    have dU:=sW
    have dD:=uS
    have dA:=uT
    have pz:=wR
    have HK:=wS
    have HB:=Gg
    clear sV sW uS uT wR wS Gg
    replace bC:=ah.mk (Kd.R_drew bC.out)
    replace dU:=ah.mk (dn dU.out)
    replace dD:=ah.mk (dn dD.out)
    replace dA:=ah.mk (dn dA.out)
    replace pz:=ah.mk (dn pz.out)
    replace HK:=ah.mk (Kept.drew HK.out)
    replace HB:=ah.mk (dG HB.out)
    refine st 11 (an (b2 dU) (b3 pz)) (fun hHeld=>?_);refine bR bQ.tab4 bQ.bits4 (fun HT_ HW_=>?_)
    generalize w23.drew=w24 at bC dU dD dA pz HK HB hHeld ⊢
    refine pu 2 (some 37) (bm 11 4) rfl rfl ?_
    refine pu 3 (some 38) (bm 11 12) rfl rfl ?_
    refine pu 4 (some 39) (bm 11 28) rfl rfl ?_
    refine pu 5 (some 40) (bm 11 60) rfl rfl ?_
    refine pu 6 (some 41) (bm 11 124) rfl rfl ?_
    refine tk 0 (some 35) (bm 11 125) rfl rfl hHeld ?_
    refine tk 1 (some 36) (bm 11 127) rfl rfl hHeld ?_
    refine fV (i:=7) (N:=none) (bm 11 255) rfl rfl (bL HT_.out (by kernel_rfl)) (by decide) (fun K hK=>?_)
    have aQz:w24.cell? ⟨dY,0,none⟩=some (.slice none 0 0):=(au dD.out 0).trans rfl
    have aLO:=ak dD.out 0
    have av4:=dQ.out
    have av5:=fB.out
    have av6:=ic.out
    have av7:=jb.out
    have av8:=fA.out
    have av9:=oF.out
    have aQA:w24.cell? ⟨dY,1,none⟩=some (.int .i64 0):=(au dD.out 1).trans rfl
    have aLP:=ak dD.out 1
    have ava:=dQ.out
    have avb:=fB.out
    have avc:=ic.out
    have avd:=jb.out
    have ave:=fA.out
    have avf:=oF.out
    refine oW (w1:=?_) (by rfl) rfl ?_ ?_
    rotate_left
    ·go_simp
     rfl
    refine hK.out _ _ (an ⟨((cell_far (p:=⟨dY,_,none⟩) dQ.out _).trans (((cell_far (p:=⟨dY,_,none⟩) dQ.out _).trans (hHeld.1.1)))),((cell_far (p:=⟨dY,_,none⟩) dQ.out _).trans (((cell_far (p:=⟨dY,_,none⟩) dQ.out _).trans (hHeld.1.2))))⟩ ⟨((cell_far (p:=⟨dY,_,none⟩) ic.out _).trans (((cell_far (p:=⟨dY,_,none⟩) ic.out _).trans (hHeld.2.1)))),((cell_far (p:=⟨dY,_,none⟩) ic.out _).trans (((cell_far (p:=⟨dY,_,none⟩) ic.out _).trans (hHeld.2.2.1)))),((cell_far (p:=⟨dY,_,none⟩) ic.out _).trans (((cell_far (p:=⟨dY,_,none⟩) ic.out _).trans (hHeld.2.2.2))))⟩) (fun hHeld=>?_)
    clear hK K
    refine fV (i:=8) (N:=none) (bm 11 511) rfl rfl (bL HT_.out (by kernel_rfl)) (by decide) (fun K hK=>?_)
    have aQB:w24.cell? ⟨bT,0,none⟩=some (.string (⟨#[]⟩:ByteArray)):=(au dA.out 0).trans rfl
    have aLQ:=ak dA.out 0
    have avg:=bW.out
    have avh:=fA.out
    have avi:=fo.out
    have avj:=gN.out
    have avk:=fB.out
    have avl:=mH.out
    have aCz:w24.cell? ⟨bT,1,none⟩=some (.string (⟨#[]⟩:ByteArray)):=(au dA.out 1).trans rfl
    have anv:=ak dA.out 1
    have a8S:=bW.out
    have avm:=fA.out
    have avn:=fo.out
    have a8T:=gN.out
    have avo:=fB.out
    have avp:=mH.out
    have anw:w24.cell? ⟨bT,2,none⟩=some (.bool false):=(au dA.out 2).trans rfl
    have acH:=ak dA.out 2
    have VD:=bW.out
    have a8U:=fA.out
    have avq:=fo.out
    have VE:=gN.out
    have a8V:=fB.out
    have avr:=mH.out
    refine oW (w1:=?_) (by rfl) rfl ?_ ?_
    rotate_left
    ·go_simp
     rfl
    refine hK.out _ _ (an ⟨((cell_far (p:=⟨bT,_,none⟩) bW.out _).trans (((cell_far (p:=⟨bT,_,none⟩) bW.out _).trans (((cell_far (p:=⟨bT,_,none⟩) bW.out _).trans (hHeld.1.1)))))),((cell_far (p:=⟨bT,_,none⟩) bW.out _).trans (((cell_far (p:=⟨bT,_,none⟩) bW.out _).trans (((cell_far (p:=⟨bT,_,none⟩) bW.out _).trans (hHeld.1.2))))))⟩ ⟨((cell_far (p:=⟨bT,_,none⟩) fo.out _).trans (((cell_far (p:=⟨bT,_,none⟩) fo.out _).trans (((cell_far (p:=⟨bT,_,none⟩) fo.out _).trans (hHeld.2.1)))))),((cell_far (p:=⟨bT,_,none⟩) fo.out _).trans (((cell_far (p:=⟨bT,_,none⟩) fo.out _).trans (((cell_far (p:=⟨bT,_,none⟩) fo.out _).trans (hHeld.2.2.1)))))),((cell_far (p:=⟨bT,_,none⟩) fo.out _).trans (((cell_far (p:=⟨bT,_,none⟩) fo.out _).trans (((cell_far (p:=⟨bT,_,none⟩) fo.out _).trans (hHeld.2.2.2))))))⟩) (fun hHeld=>?_)
    clear hK K
    refine pu 9 (some 6) (bm 11 1023) rfl rfl ?_
    refine pu 10 (some 7) (bm 11 2047) rfl rfl ?_
    refine fw (dM HT_.out (by kernel_rfl)) ?_
    try go_wp2
    refine bodyPost_ret (mq (rs:=[.cell 4 25,.cell 5 89,.tmp 6,.tmp 7]) rfl (by simp) (.cell dY 25 #[.slice Aj aH.length Ak,.int .i64 aA] (0,0) _ rfl (zp dD) Tryz.underlying25 rfl (by kernel_rfl) (.cell bT 89 #[.string qY,.string qZ,.bool rf] (0,0) _ rfl (zp dA) Tryz.underlying89 rfl (by kernel_rfl) (.tmp (.tmp .nil))))) rfl ?_
    exact⟨_,ze,(Kd.R_mono (qb (Kd.R_mono (Kd.R_types bC.out dD.out (by decide)) (fun k_ hk=>(⟨hk,hk.1.2.1⟩:_∧k_≠bT)))) (fun _ hk=>hk.1.1.1)),zb HB,kz⟩
   ·replace c13:=Bool.eq_false_iff.mpr c13
    subst c13
    rw[if_neg (show ¬(false=true) by decide)]at H
    simp only[Option.some.injEq,Prod.mk.injEq]at H
    obtain⟨rfl,rfl,rfl,rfl,rfl,rfl,rfl⟩:=H
    try go_wp2_with (first|((with_reducible refine gq 116 rfl ?_);refine gl (some 25) Tryz.func116 #[.string a1,.int .i64 7] ?_;(with_reducible refine(aI.calls k a1 7 XB anm false _ A11.out).mono ?_);rintro e w' ⟨rfl,⟨nd,rfl⟩⟩;refine⟨_,rfl,?_⟩;(try(rw[ug w9];generalize dK:World.drewN w9 _=w9;have sV:ah (Kd.R iF 89 w9 w0.heap.size (fun k_=>(ji k_∨w.heap.size≤k_)∧k_≠bT) (.slice Aj aH.length Ak) aH):=⟨by rw[←dK];exact(zr bC)⟩;have sW:ah (w9.heap[vS]?=some (.cells #[.slice Aj aH.length Ak,.int .i64 aA] 25 (0,0))):=⟨by rw[←dK];exact(zk dU)⟩;have uS:ah (w9.heap[dY]?=some (.cells #[.slice none 0 0,.int .i64 0] 25 (0,0))):=⟨by rw[←dK];exact(zk dD)⟩;have uT:ah (w9.heap[bT]?=some (.cells #[.string (⟨#[]⟩:ByteArray),.string (⟨#[]⟩:ByteArray),.bool false] 89 (0,0))):=⟨by rw[←dK];exact(zk dA)⟩;have wR:ah (Kept w w9 (fun _=>False)):=⟨by rw[←dK];exact(by repeat(first|(with_reducible first|exact HK.out|apply Kept.alloc|apply Kept.drewN|apply Kept.drew|refine Kept.setCell ?_ (.inr Og.out) _|refine Kept.setCell ?_ (.inr Oh.out) _|refine Kept.setCell ?_ (.inr Oi.out) _)|exact HK.out))⟩;have wS:ah (Below w0.heap.size w0 w9):=⟨by rw[←dK];exact(zb HB)⟩;clear bC dU dD dA HK HB dK;have bC:=sV;have dU:=sW;have dD:=uS;have dA:=uT;have HK:=wR;have HB:=wS;clear sV sW uS uT wR wS));have abU:=dQ.out;have abV:=jb.out;have aLR:=bW.out;have aLS:=gN.out;obtain⟨avs,avt,avu,avv⟩:=c2 dU)|((with_reducible refine gq 117 rfl ?_);refine gl (some 32) Tryz.func117 #[.agg #[.slice Aj aH.length Ak,.int .i64 aA],.int .i64 XB] ?_;(with_reducible refine(kF.calls _ _ aH aA XB qY qZ rf ann _ ?aN ?aQ Xi.out).mono ?_);(case aN=>exact zc (Kd.R_reads' bC.out).2.2);(case aQ=>exact(Kd.R_reads' bC.out).2.1);rintro e w33 ⟨rfl,hb⟩;refine⟨_,rfl,?_⟩;replace bC:=ah.mk (Kd.R_below (zr bC) hb);replace dU:=kb dU hb;replace dD:=kb dD hb;replace dA:=kb dA hb;replace HK:=kq hb;replace HB:=ah.mk (ai (zb HB) hb);(try clear hb))|((with_reducible refine gd 11 rfl ?_);refine bx (N:=11) (cs:=#[.string (⟨#[]⟩:ByteArray),.string (⟨#[]⟩:ByteArray),.bool false]) (t:=89) ?_;intro fE hg LZ hbox hb;replace bC:=ah.mk (Kd.R_below (Kd.R_elderB (zr bC) fE (Nat.le_of_eq hg.symm)) hb);have pz:=ah.mk (hbox);have anq:=ah.mk ((by rw[hg];exact(kz (w:=w)).1:w.heap.size≤fE));replace HK:=kq hb;have anr:=ah.mk ((by rw[hg];exact(aJ (zb HB)):w0.heap.size≤fE));replace HB:=ah.mk (ai (zb HB) hb);obtain⟨BN,BO⟩:=nb dU hg;replace dU:=kb dU hb;obtain⟨oF,ic⟩:=nb dD hg;replace dD:=kb dD hb;obtain⟨mH,fo⟩:=nb dA hg;replace dA:=kb dA hb;clear hb hbox hg;have anx:=BO.out;have anz:=BN.out;have a1m:=ic.out;have a1n:=oF.out;have a0S:=fo.out;have a0T:=mH.out;obtain⟨DI,DJ,DK,DL,DN,DT⟩:=c3 pz))
    have sV:ah (Kd.R iF 89 (((LZ.setCell ⟨fE,0,none⟩ (.string qY)).setCell ⟨fE,1,none⟩ (.string qZ)).setCell ⟨fE,2,none⟩ (.bool rf)) w0.heap.size (fun k_=>(ji k_∨w.heap.size≤k_)∧k_≠bT∧k_≠fE) (.slice Aj aH.length Ak) aH):=⟨(Kd.R_mono (qb (Kd.R_mono bC.out (fun k_ hk=>(⟨hk,hk.2⟩:_∧k_≠fE)))) (fun _ hk=>⟨hk.1.1.1,⟨hk.1.1.2,hk.1.2⟩⟩))⟩
    have sW:ah ((((LZ.setCell ⟨fE,0,none⟩ (.string qY)).setCell ⟨fE,1,none⟩ (.string qZ)).setCell ⟨fE,2,none⟩ (.bool rf)).heap[vS]?=some (.cells #[.slice Aj aH.length Ak,.int .i64 aA] 25 (0,0))):=⟨zp dU⟩
    have uS:ah ((((LZ.setCell ⟨fE,0,none⟩ (.string qY)).setCell ⟨fE,1,none⟩ (.string qZ)).setCell ⟨fE,2,none⟩ (.bool rf)).heap[dY]?=some (.cells #[.slice none 0 0,.int .i64 0] 25 (0,0))):=⟨zp dD⟩
    have uT:ah ((((LZ.setCell ⟨fE,0,none⟩ (.string qY)).setCell ⟨fE,1,none⟩ (.string qZ)).setCell ⟨fE,2,none⟩ (.bool rf)).heap[bT]?=some (.cells #[.string (⟨#[]⟩:ByteArray),.string (⟨#[]⟩:ByteArray),.bool false] 89 (0,0))):=⟨zp dA⟩
    have wR:ah ((((LZ.setCell ⟨fE,0,none⟩ (.string qY)).setCell ⟨fE,1,none⟩ (.string qZ)).setCell ⟨fE,2,none⟩ (.bool rf)).heap[fE]?=some (.cells #[.string qY,.string qZ,.bool rf] 89 (0,0))):=⟨zp pz⟩
    have wS:ah (Kept w (((LZ.setCell ⟨fE,0,none⟩ (.string qY)).setCell ⟨fE,1,none⟩ (.string qZ)).setCell ⟨fE,2,none⟩ (.bool rf)) (fun _=>False)):=⟨kz⟩
    have Gg:ah (Below w0.heap.size w0 (((LZ.setCell ⟨fE,0,none⟩ (.string qY)).setCell ⟨fE,1,none⟩ (.string qZ)).setCell ⟨fE,2,none⟩ (.bool rf))):=⟨zb HB⟩
    (try clear bC)
    (try clear dU)
    (try clear dD)
    (try clear dA)
    (try clear pz)
    (try clear HK)
    (try clear HB)
    generalize(((LZ.setCell ⟨fE,0,none⟩ (.string qY)).setCell ⟨fE,1,none⟩ (.string qZ)).setCell ⟨fE,2,none⟩ (.bool rf))=w39 at sV sW uS uT wR wS Gg ⊢
    have bC:=sV
    have dU:=sW
    have dD:=uS
    have dA:=uT
    have pz:=wR
    have HK:=wS
    have HB:=Gg
    clear sV sW uS uT wR wS Gg
    replace bC:=ah.mk (Kd.R_drew bC.out)
    replace dU:=ah.mk (dn dU.out)
    replace dD:=ah.mk (dn dD.out)
    replace dA:=ah.mk (dn dA.out)
    replace pz:=ah.mk (dn pz.out)
    replace HK:=ah.mk (Kept.drew HK.out)
    replace HB:=ah.mk (dG HB.out)
    refine st 11 (an (b2 dU) (b3 pz)) (fun hHeld=>?_);refine bR bQ.tab4 bQ.bits4 (fun HT_ HW_=>?_)
    generalize w39.drew=w40 at bC dU dD dA pz HK HB hHeld ⊢
    refine pu 2 (some 37) (bm 11 4) rfl rfl ?_
    refine pu 3 (some 38) (bm 11 12) rfl rfl ?_
    refine pu 4 (some 39) (bm 11 28) rfl rfl ?_
    refine pv 5 (some 40) (bm 11 60) rfl rfl ?_
    refine pu 6 (some 41) (bm 11 124) rfl rfl ?_
    refine tk 0 (some 35) (bm 11 125) rfl rfl hHeld ?_
    refine tk 1 (some 36) (bm 11 127) rfl rfl hHeld ?_
    refine fV (i:=7) (N:=none) (bm 11 255) rfl rfl (bL HT_.out (by kernel_rfl)) (by decide) (fun K hK=>?_)
    have aCA:w40.cell? ⟨dY,0,none⟩=some (.slice none 0 0):=(au dD.out 0).trans rfl
    have anA:=ak dD.out 0
    have a8W:=dQ.out
    have avw:=fB.out
    have avx:=ic.out
    have a8X:=jb.out
    have avy:=fA.out
    have avz:=oF.out
    have aQD:w40.cell? ⟨dY,1,none⟩=some (.int .i64 0):=(au dD.out 1).trans rfl
    have aLT:=ak dD.out 1
    have avA:=dQ.out
    have avB:=fB.out
    have avC:=ic.out
    have avD:=jb.out
    have avE:=fA.out
    have avF:=oF.out
    refine oW (w1:=?_) (by rfl) rfl ?_ ?_
    rotate_left
    ·go_simp
     rfl
    refine hK.out _ _ (an ⟨((cell_far (p:=⟨dY,_,none⟩) dQ.out _).trans (((cell_far (p:=⟨dY,_,none⟩) dQ.out _).trans (hHeld.1.1)))),((cell_far (p:=⟨dY,_,none⟩) dQ.out _).trans (((cell_far (p:=⟨dY,_,none⟩) dQ.out _).trans (hHeld.1.2))))⟩ ⟨((cell_far (p:=⟨dY,_,none⟩) ic.out _).trans (((cell_far (p:=⟨dY,_,none⟩) ic.out _).trans (hHeld.2.1)))),((cell_far (p:=⟨dY,_,none⟩) ic.out _).trans (((cell_far (p:=⟨dY,_,none⟩) ic.out _).trans (hHeld.2.2.1)))),((cell_far (p:=⟨dY,_,none⟩) ic.out _).trans (((cell_far (p:=⟨dY,_,none⟩) ic.out _).trans (hHeld.2.2.2))))⟩) (fun hHeld=>?_)
    clear hK K
    refine fV (i:=8) (N:=none) (bm 11 511) rfl rfl (bL HT_.out (by kernel_rfl)) (by decide) (fun K hK=>?_)
    have aQE:w40.cell? ⟨bT,0,none⟩=some (.string (⟨#[]⟩:ByteArray)):=(au dA.out 0).trans rfl
    have aLU:=ak dA.out 0
    have avG:=bW.out
    have avH:=fA.out
    have avI:=fo.out
    have avJ:=gN.out
    have avK:=fB.out
    have avL:=mH.out
    have aQF:w40.cell? ⟨bT,1,none⟩=some (.string (⟨#[]⟩:ByteArray)):=(au dA.out 1).trans rfl
    have aLV:=ak dA.out 1
    have avM:=bW.out
    have avN:=fA.out
    have avO:=fo.out
    have avP:=gN.out
    have avQ:=fB.out
    have avR:=mH.out
    have aQG:w40.cell? ⟨bT,2,none⟩=some (.bool false):=(au dA.out 2).trans rfl
    have aLW:=ak dA.out 2
    have avS:=bW.out
    have avT:=fA.out
    have avU:=fo.out
    have avV:=gN.out
    have avW:=fB.out
    have avX:=mH.out
    refine oW (w1:=?_) (by rfl) rfl ?_ ?_
    rotate_left
    ·go_simp
     rfl
    refine hK.out _ _ (an ⟨((cell_far (p:=⟨bT,_,none⟩) bW.out _).trans (((cell_far (p:=⟨bT,_,none⟩) bW.out _).trans (((cell_far (p:=⟨bT,_,none⟩) bW.out _).trans (hHeld.1.1)))))),((cell_far (p:=⟨bT,_,none⟩) bW.out _).trans (((cell_far (p:=⟨bT,_,none⟩) bW.out _).trans (((cell_far (p:=⟨bT,_,none⟩) bW.out _).trans (hHeld.1.2))))))⟩ ⟨((cell_far (p:=⟨bT,_,none⟩) fo.out _).trans (((cell_far (p:=⟨bT,_,none⟩) fo.out _).trans (((cell_far (p:=⟨bT,_,none⟩) fo.out _).trans (hHeld.2.1)))))),((cell_far (p:=⟨bT,_,none⟩) fo.out _).trans (((cell_far (p:=⟨bT,_,none⟩) fo.out _).trans (((cell_far (p:=⟨bT,_,none⟩) fo.out _).trans (hHeld.2.2.1)))))),((cell_far (p:=⟨bT,_,none⟩) fo.out _).trans (((cell_far (p:=⟨bT,_,none⟩) fo.out _).trans (((cell_far (p:=⟨bT,_,none⟩) fo.out _).trans (hHeld.2.2.2))))))⟩) (fun hHeld=>?_)
    clear hK K
    refine pu 9 (some 6) (bm 11 1023) rfl rfl ?_
    refine pu 10 (some 7) (bm 11 2047) rfl rfl ?_
    refine fw (dM HT_.out (by kernel_rfl)) ?_
    try go_wp2
    refine bodyPost_ret (mq (rs:=[.cell 4 25,.cell 5 89,.tmp 6,.tmp 7]) rfl (by simp) (.cell dY 25 #[.slice Aj aH.length Ak,.int .i64 aA] (0,0) _ rfl (zp dD) Tryz.underlying25 rfl (by kernel_rfl) (.cell bT 89 #[.string qY,.string qZ,.bool rf] (0,0) _ rfl (zp dA) Tryz.underlying89 rfl (by kernel_rfl) (.tmp (.tmp .nil))))) rfl ?_
    exact⟨_,ze,(Kd.R_mono (qb (Kd.R_mono (Kd.R_types bC.out dD.out (by decide)) (fun k_ hk=>(⟨hk,hk.1.2.1⟩:_∧k_≠bT)))) (fun _ hk=>hk.1.1.1)),zb HB,kz⟩
  ·rw[if_neg c10]at H
   have c10b0:=decide_eq_false c10
   clear c10
   (first|rw[c10b0]|rw[c10b1]|rw[c10b2]|(simp only[iC,iQ];rw[c10b0])|skip)
   by_cases c47:(bt a1 0)≥64
   ·rw[if_pos c47]at H
    have c47b0:=decide_eq_true c47
    clear c47
    obtain⟨⟨qJ,qK,qL,aCB,anB⟩,A48,H⟩:=ob H
    (try dsimp only at H)
    have anC:=ah.mk H
    clear H
    have p46:0≤(0:Int):=(by omega)
    have Qe:0<a1.size:=(by have:(0:Int)<(a1.size:Int):=of_decide_eq_true za;omega)
    have anD:∀h:0<a1.size,((a1[0]'h).toNat:Int)=bt a1 0:=gB a1 0
    clear p46
    have anE:(0<(a1.size:Int))=True:=eq_true (of_decide_eq_true za)
    replace Qe:=eq_true Qe
    have aLX:=dQ.out
    have aLY:=jb.out
    have anF:=bW.out
    have anG:=gN.out
    obtain⟨a8Y,a8Z,a90,a92⟩:=c2 dU
    go_upto_if 54 with(first|((with_reducible refine gq 118 rfl ?_);refine gl (some 49) Tryz.func118 #[.agg #[.slice Aj aH.length Ak,.int .i64 aA],.string a1,.int .i64 6] ?_;(with_reducible refine(gU.calls k _ _ aH aA a1 6 qJ qK qL aCB anB _ ?aN ?aQ A48.out).mono ?_);(case aN=>exact zc (Kd.R_reads' bC.out).2.2);(case aQ=>exact(Kd.R_reads' bC.out).2.1);rintro e w53 ⟨rfl,hb⟩;refine⟨_,rfl,?_⟩;replace bC:=ah.mk (Kd.R_below (zr bC) hb);replace dU:=kb dU hb;replace dD:=kb dD hb;replace dA:=kb dA hb;replace HK:=kq hb;replace HB:=ah.mk (ai (zb HB) hb);(try clear hb))|((with_reducible refine gd 13 rfl ?_);refine bx (N:=13) (cs:=#[.string (⟨#[]⟩:ByteArray),.string (⟨#[]⟩:ByteArray),.bool false]) (t:=89) ?_;intro fT hg Oj hbox hb;replace bC:=ah.mk (Kd.R_below (Kd.R_elderB (zr bC) fT (Nat.le_of_eq hg.symm)) hb);have nQ:=ah.mk (hbox);have anH:=ah.mk ((by rw[hg];exact(kz (w:=w)).1:w.heap.size≤fT));replace HK:=kq hb;have aLZ:=ah.mk ((by rw[hg];exact(aJ (zb HB)):w0.heap.size≤fT));replace HB:=ah.mk (ai (zb HB) hb);obtain⟨XC,XD⟩:=nb dU hg;replace dU:=kb dU hb;obtain⟨tq,iG⟩:=nb dD hg;replace dD:=kb dD hb;obtain⟨oG,fH⟩:=nb dA hg;replace dA:=kb dA hb;clear hb hbox hg;have ane:=XD.out;have anf:=XC.out;have ang:=iG.out;have anh:=tq.out;have acF:=fH.out;have acG:=oG.out;obtain⟨Vy,Vz,a8M,VA,VB,a8N⟩:=c3 nQ))
    (try simp only[Act.put,s1,s2,s3])
    have H:=anC.out
    clear anC
    by_cases c59:anB=true
    ·subst c59
     rw[if_pos rfl]at H
     obtain⟨⟨anI,anJ⟩,A60,H⟩:=ob H
     (try dsimp only at H)
     simp only[Option.some.injEq,Prod.mk.injEq]at H
     obtain⟨rfl,rfl,rfl,rfl,rfl,rfl,rfl⟩:=H
     try go_wp2
     have sV:ah (Kd.R iF 89 (((Oj.setCell ⟨fT,0,none⟩ (.string qJ)).setCell ⟨fT,1,none⟩ (.string qK)).setCell ⟨fT,2,none⟩ (.bool qL)) w0.heap.size (fun k_=>(ji k_∨w.heap.size≤k_)∧k_≠bT∧k_≠fT) (.slice Aj aH.length Ak) aH):=⟨(Kd.R_mono (qb (Kd.R_mono bC.out (fun k_ hk=>(⟨hk,hk.2⟩:_∧k_≠fT)))) (fun _ hk=>⟨hk.1.1.1,⟨hk.1.1.2,hk.1.2⟩⟩))⟩
     have sW:ah ((((Oj.setCell ⟨fT,0,none⟩ (.string qJ)).setCell ⟨fT,1,none⟩ (.string qK)).setCell ⟨fT,2,none⟩ (.bool qL)).heap[vS]?=some (.cells #[.slice Aj aH.length Ak,.int .i64 aA] 25 (0,0))):=⟨zp dU⟩
     have uS:ah ((((Oj.setCell ⟨fT,0,none⟩ (.string qJ)).setCell ⟨fT,1,none⟩ (.string qK)).setCell ⟨fT,2,none⟩ (.bool qL)).heap[dY]?=some (.cells #[.slice none 0 0,.int .i64 0] 25 (0,0))):=⟨zp dD⟩
     have uT:ah ((((Oj.setCell ⟨fT,0,none⟩ (.string qJ)).setCell ⟨fT,1,none⟩ (.string qK)).setCell ⟨fT,2,none⟩ (.bool qL)).heap[bT]?=some (.cells #[.string (⟨#[]⟩:ByteArray),.string (⟨#[]⟩:ByteArray),.bool false] 89 (0,0))):=⟨zp dA⟩
     have wR:ah ((((Oj.setCell ⟨fT,0,none⟩ (.string qJ)).setCell ⟨fT,1,none⟩ (.string qK)).setCell ⟨fT,2,none⟩ (.bool qL)).heap[fT]?=some (.cells #[.string qJ,.string qK,.bool qL] 89 (0,0))):=⟨zp nQ⟩
     have wS:ah (Kept w (((Oj.setCell ⟨fT,0,none⟩ (.string qJ)).setCell ⟨fT,1,none⟩ (.string qK)).setCell ⟨fT,2,none⟩ (.bool qL)) (fun _=>False)):=⟨kz⟩
     have Gg:ah (Below w0.heap.size w0 (((Oj.setCell ⟨fT,0,none⟩ (.string qJ)).setCell ⟨fT,1,none⟩ (.string qK)).setCell ⟨fT,2,none⟩ (.bool qL))):=⟨zb HB⟩
     (try clear bC)
     (try clear dU)
     (try clear dD)
     (try clear dA)
     (try clear nQ)
     (try clear HK)
     (try clear HB)
     generalize(((Oj.setCell ⟨fT,0,none⟩ (.string qJ)).setCell ⟨fT,1,none⟩ (.string qK)).setCell ⟨fT,2,none⟩ (.bool qL))=w61 at sV sW uS uT wR wS Gg ⊢
     have bC:=sV
     have dU:=sW
     have dD:=uS
     have dA:=uT
     have nQ:=wR
     have HK:=wS
     have HB:=Gg
     clear sV sW uS uT wR wS Gg
     replace bC:=ah.mk (Kd.R_drew bC.out)
     replace dU:=ah.mk (dn dU.out)
     replace dD:=ah.mk (dn dD.out)
     replace dA:=ah.mk (dn dA.out)
     replace nQ:=ah.mk (dn nQ.out)
     replace HK:=ah.mk (Kept.drew HK.out)
     replace HB:=ah.mk (dG HB.out)
     refine st 9 (an (b2 dU) (b3 nQ)) (fun hHeld=>?_);refine bR bQ.tab9 bQ.bits9 (fun HT_ HW_=>?_)
     generalize w61.drew=w62 at bC dU dD dA nQ HK HB hHeld ⊢
     refine pu 4 (some 61) (bm 9 16) rfl rfl ?_
     refine tk 0 (some 57) (bm 9 17) rfl rfl hHeld ?_
     refine tk 1 (some 58) (bm 9 19) rfl rfl hHeld ?_
     refine tk 3 (some 60) (bm 9 27) rfl rfl hHeld ?_
     refine fV (i:=2) (N:=some 59) (bm 9 31) rfl rfl (bL HT_.out (by kernel_rfl)) (by decide) (fun K hK=>?_)
     refine gs Tryz.func73 #[.agg #[.slice Aj aH.length Ak,.int .i64 aA],.agg #[.string qJ,.string qK,.bool qL]] ?_
     with_reducible refine(dS.calls k _ _ aH aA qJ qK qL anI anJ _ ?aN ?aQ A60.out).mono ?_
     (case aN=>exact zc (Kd.R_reads' bC.out).2.2)
     (case aQ=>exact(Kd.R_reads' bC.out).2.1)
     rintro e w63 ⟨aQI,rfl,ho0,hb⟩
     refine⟨_,rfl,?_⟩
     have acI:=ah.mk (Kd.R_lower (Kd.R_newB (Kd.R_newB (Kd.R_new' (Kd.R_newM (M:=fun k_=>(ji k_∨w.heap.size≤k_)) ho0 (by first|exact HK.out.1|exact(show Kept w _ (fun _=>False)from by repeat(first|(with_reducible first|exact HK.out|apply Kept.alloc|apply Kept.drewN|apply Kept.drew|refine Kept.setCell ?_ (.inr Og.out) _|refine Kept.setCell ?_ (.inr Oh.out) _|refine Kept.setCell ?_ (.inr Oi.out) _|refine Kept.setCell ?_ (.inr anH.out) _)|exact HK.out)).1) (fun k_ h_=>.inr h_)) (Kd.R_lt (zr bC))) (zk dA)) (zk nQ)) (aJ (zb HB)))
     replace bC:=ah.mk (Kd.R_elder' (zr bC) (Kd.R_base ho0) hb)
     replace dU:=kb dU hb
     replace dD:=kb dD hb
     replace dA:=kb dA hb
     replace nQ:=kb nQ hb
     replace HK:=kq hb
     replace HB:=ah.mk (ai (zb HB) hb)
     (try clear hb)
     (try clear ho0)
     obtain⟨aCD,aCE,anL⟩:=Kd.R_slice acI.out
     (first|subst anL|(injection anL with Cx Na Cy;have Nb:=Cx.symm;have Nc:=Cy.symm;clear Cx Na Cy;subst Nb;subst Nc))
     refine hK.out _ _ (an (b2 dU) (b3 nQ)) (fun hHeld=>?_)
     clear hK K
     refine nm ?_
     refine fV (i:=5) (N:=none) (bm 9 63) rfl rfl (bL HT_.out (by kernel_rfl)) (by decide) (fun K hK=>?_)
     have aQJ:w63.cell? ⟨dY,0,none⟩=some (.slice none 0 0):=(au dD.out 0).trans rfl
     have aM0:=ak dD.out 0
     have avY:=dQ.out
     have avZ:=fB.out
     have aw0:=iG.out
     have aw1:=jb.out
     have aw2:=fA.out
     have aw3:=tq.out
     have aQK:w63.cell? ⟨dY,1,none⟩=some (.int .i64 0):=(au dD.out 1).trans rfl
     have aM1:=ak dD.out 1
     have aw4:=dQ.out
     have aw5:=fB.out
     have aw6:=iG.out
     have aw7:=jb.out
     have aw8:=fA.out
     have aw9:=tq.out
     refine oW (w1:=?_) (by rfl) rfl ?_ ?_
     rotate_left
     ·go_simp
      rfl
     refine hK.out _ _ (an ⟨((cell_far (p:=⟨dY,_,none⟩) dQ.out _).trans (((cell_far (p:=⟨dY,_,none⟩) dQ.out _).trans (hHeld.1.1)))),((cell_far (p:=⟨dY,_,none⟩) dQ.out _).trans (((cell_far (p:=⟨dY,_,none⟩) dQ.out _).trans (hHeld.1.2))))⟩ ⟨((cell_far (p:=⟨dY,_,none⟩) iG.out _).trans (((cell_far (p:=⟨dY,_,none⟩) iG.out _).trans (hHeld.2.1)))),((cell_far (p:=⟨dY,_,none⟩) iG.out _).trans (((cell_far (p:=⟨dY,_,none⟩) iG.out _).trans (hHeld.2.2.1)))),((cell_far (p:=⟨dY,_,none⟩) iG.out _).trans (((cell_far (p:=⟨dY,_,none⟩) iG.out _).trans (hHeld.2.2.2))))⟩) (fun hHeld=>?_)
     clear hK K
     refine fV (i:=6) (N:=none) (bm 9 127) rfl rfl (bL HT_.out (by kernel_rfl)) (by decide) (fun K hK=>?_)
     have aQL:w63.cell? ⟨bT,0,none⟩=some (.string (⟨#[]⟩:ByteArray)):=(au dA.out 0).trans rfl
     have aM2:=ak dA.out 0
     have awc:=bW.out
     have awd:=fA.out
     have awe:=fH.out
     have awf:=gN.out
     have awg:=fB.out
     have awh:=oG.out
     have aQM:w63.cell? ⟨bT,1,none⟩=some (.string (⟨#[]⟩:ByteArray)):=(au dA.out 1).trans rfl
     have aM3:=ak dA.out 1
     have awi:=bW.out
     have awj:=fA.out
     have awk:=fH.out
     have awl:=gN.out
     have awm:=fB.out
     have awn:=oG.out
     have aQN:w63.cell? ⟨bT,2,none⟩=some (.bool false):=(au dA.out 2).trans rfl
     have aM4:=ak dA.out 2
     have awo:=bW.out
     have awp:=fA.out
     have awq:=fH.out
     have awr:=gN.out
     have aws:=fB.out
     have awt:=oG.out
     refine oW (w1:=?_) (by rfl) rfl ?_ ?_
     rotate_left
     ·go_simp
      rfl
     refine hK.out _ _ (an ⟨((cell_far (p:=⟨bT,_,none⟩) bW.out _).trans (((cell_far (p:=⟨bT,_,none⟩) bW.out _).trans (((cell_far (p:=⟨bT,_,none⟩) bW.out _).trans (hHeld.1.1)))))),((cell_far (p:=⟨bT,_,none⟩) bW.out _).trans (((cell_far (p:=⟨bT,_,none⟩) bW.out _).trans (((cell_far (p:=⟨bT,_,none⟩) bW.out _).trans (hHeld.1.2))))))⟩ ⟨((cell_far (p:=⟨bT,_,none⟩) fH.out _).trans (((cell_far (p:=⟨bT,_,none⟩) fH.out _).trans (((cell_far (p:=⟨bT,_,none⟩) fH.out _).trans (hHeld.2.1)))))),((cell_far (p:=⟨bT,_,none⟩) fH.out _).trans (((cell_far (p:=⟨bT,_,none⟩) fH.out _).trans (((cell_far (p:=⟨bT,_,none⟩) fH.out _).trans (hHeld.2.2.1)))))),((cell_far (p:=⟨bT,_,none⟩) fH.out _).trans (((cell_far (p:=⟨bT,_,none⟩) fH.out _).trans (((cell_far (p:=⟨bT,_,none⟩) fH.out _).trans (hHeld.2.2.2))))))⟩) (fun hHeld=>?_)
     clear hK K
     refine pu 7 (some 6) (bm 9 255) rfl rfl ?_
     refine pu 8 (some 7) (bm 9 511) rfl rfl ?_
     refine fw (dM HT_.out (by kernel_rfl)) ?_
     try go_wp2
     refine bodyPost_ret (mq (rs:=[.cell 4 25,.cell 5 89,.tmp 6,.tmp 7]) rfl (by simp) (.cell dY 25 #[.slice aCD anI.length aCE,.int .i64 anJ] (0,0) _ rfl (zp dD) Tryz.underlying25 rfl (by kernel_rfl) (.cell bT 89 #[.string qJ,.string qK,.bool qL] (0,0) _ rfl (zp dA) Tryz.underlying89 rfl (by kernel_rfl) (.tmp (.tmp .nil))))) rfl ?_
     exact⟨_,ze,(Kd.R_mono (qb (Kd.R_mono (Kd.R_types acI.out dD.out (by decide)) (fun k_ hk=>(⟨hk,hk.1.1.2⟩:_∧k_≠bT)))) (fun _ hk=>hk.1.1.1.1.1.1)),zb HB,kz⟩
    ·replace c59:=Bool.eq_false_iff.mpr c59
     subst c59
     rw[if_neg (show ¬(false=true) by decide)]at H
     simp only[Option.some.injEq,Prod.mk.injEq]at H
     obtain⟨rfl,rfl,rfl,rfl,rfl,rfl,rfl⟩:=H
     try go_wp2
     have sV:ah (Kd.R iF 89 (((Oj.setCell ⟨fT,0,none⟩ (.string qJ)).setCell ⟨fT,1,none⟩ (.string qK)).setCell ⟨fT,2,none⟩ (.bool qL)) w0.heap.size (fun k_=>(ji k_∨w.heap.size≤k_)∧k_≠bT∧k_≠fT) (.slice Aj aH.length Ak) aH):=⟨(Kd.R_mono (qb (Kd.R_mono bC.out (fun k_ hk=>(⟨hk,hk.2⟩:_∧k_≠fT)))) (fun _ hk=>⟨hk.1.1.1,⟨hk.1.1.2,hk.1.2⟩⟩))⟩
     have sW:ah ((((Oj.setCell ⟨fT,0,none⟩ (.string qJ)).setCell ⟨fT,1,none⟩ (.string qK)).setCell ⟨fT,2,none⟩ (.bool qL)).heap[vS]?=some (.cells #[.slice Aj aH.length Ak,.int .i64 aA] 25 (0,0))):=⟨zp dU⟩
     have uS:ah ((((Oj.setCell ⟨fT,0,none⟩ (.string qJ)).setCell ⟨fT,1,none⟩ (.string qK)).setCell ⟨fT,2,none⟩ (.bool qL)).heap[dY]?=some (.cells #[.slice none 0 0,.int .i64 0] 25 (0,0))):=⟨zp dD⟩
     have uT:ah ((((Oj.setCell ⟨fT,0,none⟩ (.string qJ)).setCell ⟨fT,1,none⟩ (.string qK)).setCell ⟨fT,2,none⟩ (.bool qL)).heap[bT]?=some (.cells #[.string (⟨#[]⟩:ByteArray),.string (⟨#[]⟩:ByteArray),.bool false] 89 (0,0))):=⟨zp dA⟩
     have wR:ah ((((Oj.setCell ⟨fT,0,none⟩ (.string qJ)).setCell ⟨fT,1,none⟩ (.string qK)).setCell ⟨fT,2,none⟩ (.bool qL)).heap[fT]?=some (.cells #[.string qJ,.string qK,.bool qL] 89 (0,0))):=⟨zp nQ⟩
     have wS:ah (Kept w (((Oj.setCell ⟨fT,0,none⟩ (.string qJ)).setCell ⟨fT,1,none⟩ (.string qK)).setCell ⟨fT,2,none⟩ (.bool qL)) (fun _=>False)):=⟨kz⟩
     have Gg:ah (Below w0.heap.size w0 (((Oj.setCell ⟨fT,0,none⟩ (.string qJ)).setCell ⟨fT,1,none⟩ (.string qK)).setCell ⟨fT,2,none⟩ (.bool qL))):=⟨zb HB⟩
     (try clear bC)
     (try clear dU)
     (try clear dD)
     (try clear dA)
     (try clear nQ)
     (try clear HK)
     (try clear HB)
     generalize(((Oj.setCell ⟨fT,0,none⟩ (.string qJ)).setCell ⟨fT,1,none⟩ (.string qK)).setCell ⟨fT,2,none⟩ (.bool qL))=w70 at sV sW uS uT wR wS Gg ⊢
     have bC:=sV
     have dU:=sW
     have dD:=uS
     have dA:=uT
     have nQ:=wR
     have HK:=wS
     have HB:=Gg
     clear sV sW uS uT wR wS Gg
     replace bC:=ah.mk (Kd.R_drew bC.out)
     replace dU:=ah.mk (dn dU.out)
     replace dD:=ah.mk (dn dD.out)
     replace dA:=ah.mk (dn dA.out)
     replace nQ:=ah.mk (dn nQ.out)
     replace HK:=ah.mk (Kept.drew HK.out)
     replace HB:=ah.mk (dG HB.out)
     refine st 6 (an (b2 dU) (b3 nQ)) (fun hHeld=>?_)
     generalize w70.drew=w71 at bC dU dD dA nQ HK HB hHeld ⊢
     refine tk 0 (some 55) (bm 6 1) rfl rfl hHeld ?_
     refine tk 1 (some 56) (bm 6 3) rfl rfl hHeld ?_
     refine fV (i:=2) (N:=none) (bm 6 7) rfl rfl (by kernel_rfl) (by decide) (fun K hK=>?_)
     have aQP:w71.cell? ⟨dY,0,none⟩=some (.slice none 0 0):=(au dD.out 0).trans rfl
     have aM5:=ak dD.out 0
     have awu:=dQ.out
     have awv:=fB.out
     have aww:=iG.out
     have awx:=jb.out
     have awy:=fA.out
     have awz:=tq.out
     have aQQ:w71.cell? ⟨dY,1,none⟩=some (.int .i64 0):=(au dD.out 1).trans rfl
     have aM6:=ak dD.out 1
     have awC:=dQ.out
     have awD:=fB.out
     have awE:=iG.out
     have awF:=jb.out
     have awG:=fA.out
     have awH:=tq.out
     refine oW (w1:=?_) (by rfl) rfl ?_ ?_
     rotate_left
     ·go_simp
      rfl
     refine hK.out _ _ (an ⟨((cell_far (p:=⟨dY,_,none⟩) dQ.out _).trans (((cell_far (p:=⟨dY,_,none⟩) dQ.out _).trans (hHeld.1.1)))),((cell_far (p:=⟨dY,_,none⟩) dQ.out _).trans (((cell_far (p:=⟨dY,_,none⟩) dQ.out _).trans (hHeld.1.2))))⟩ ⟨((cell_far (p:=⟨dY,_,none⟩) iG.out _).trans (((cell_far (p:=⟨dY,_,none⟩) iG.out _).trans (hHeld.2.1)))),((cell_far (p:=⟨dY,_,none⟩) iG.out _).trans (((cell_far (p:=⟨dY,_,none⟩) iG.out _).trans (hHeld.2.2.1)))),((cell_far (p:=⟨dY,_,none⟩) iG.out _).trans (((cell_far (p:=⟨dY,_,none⟩) iG.out _).trans (hHeld.2.2.2))))⟩) (fun hHeld=>?_)
     clear hK K
     refine fV (i:=3) (N:=none) (bm 6 15) rfl rfl (by kernel_rfl) (by decide) (fun K hK=>?_)
     have aCF:w71.cell? ⟨bT,0,none⟩=some (.string (⟨#[]⟩:ByteArray)):=(au dA.out 0).trans rfl
     have anM:=ak dA.out 0
     have a94:=bW.out
     have awI:=fA.out
     have awJ:=fH.out
     have a95:=gN.out
     have awK:=fB.out
     have awL:=oG.out
     have aQR:w71.cell? ⟨bT,1,none⟩=some (.string (⟨#[]⟩:ByteArray)):=(au dA.out 1).trans rfl
     have aM7:=ak dA.out 1
     have awM:=bW.out
     have awN:=fA.out
     have awO:=fH.out
     have awP:=gN.out
     have awQ:=fB.out
     have awR:=oG.out
     have aQS:w71.cell? ⟨bT,2,none⟩=some (.bool false):=(au dA.out 2).trans rfl
     have aM8:=ak dA.out 2
     have awS:=bW.out
     have awT:=fA.out
     have awU:=fH.out
     have awV:=gN.out
     have awW:=fB.out
     have awX:=oG.out
     refine oW (w1:=?_) (by rfl) rfl ?_ ?_
     rotate_left
     ·go_simp
      rfl
     refine hK.out _ _ (an ⟨((cell_far (p:=⟨bT,_,none⟩) bW.out _).trans (((cell_far (p:=⟨bT,_,none⟩) bW.out _).trans (((cell_far (p:=⟨bT,_,none⟩) bW.out _).trans (hHeld.1.1)))))),((cell_far (p:=⟨bT,_,none⟩) bW.out _).trans (((cell_far (p:=⟨bT,_,none⟩) bW.out _).trans (((cell_far (p:=⟨bT,_,none⟩) bW.out _).trans (hHeld.1.2))))))⟩ ⟨((cell_far (p:=⟨bT,_,none⟩) fH.out _).trans (((cell_far (p:=⟨bT,_,none⟩) fH.out _).trans (((cell_far (p:=⟨bT,_,none⟩) fH.out _).trans (hHeld.2.1)))))),((cell_far (p:=⟨bT,_,none⟩) fH.out _).trans (((cell_far (p:=⟨bT,_,none⟩) fH.out _).trans (((cell_far (p:=⟨bT,_,none⟩) fH.out _).trans (hHeld.2.2.1)))))),((cell_far (p:=⟨bT,_,none⟩) fH.out _).trans (((cell_far (p:=⟨bT,_,none⟩) fH.out _).trans (((cell_far (p:=⟨bT,_,none⟩) fH.out _).trans (hHeld.2.2.2))))))⟩) (fun hHeld=>?_)
     clear hK K
     refine pu 4 (some 6) (bm 6 31) rfl rfl ?_
     refine pu 5 (some 7) (bm 6 63) rfl rfl ?_
     refine fw (by kernel_rfl) ?_
     try go_wp2
     refine bodyPost_ret (mq (rs:=[.cell 4 25,.cell 5 89,.tmp 6,.tmp 7]) rfl (by simp) (.cell dY 25 #[.slice Aj aH.length Ak,.int .i64 aA] (0,0) _ rfl (zp dD) Tryz.underlying25 rfl (by kernel_rfl) (.cell bT 89 #[.string qJ,.string qK,.bool qL] (0,0) _ rfl (zp dA) Tryz.underlying89 rfl (by kernel_rfl) (.tmp (.tmp .nil))))) rfl ?_
     exact⟨_,ze,(Kd.R_mono (qb (Kd.R_mono (Kd.R_types bC.out dD.out (by decide)) (fun k_ hk=>(⟨hk,hk.1.2.1⟩:_∧k_≠bT)))) (fun _ hk=>hk.1.1.1)),zb HB,kz⟩
   ·rw[if_neg c47]at H
    have c47b0:=decide_eq_false c47
    clear c47
    obtain⟨a1l,A78,H⟩:=ob H
    (try dsimp only at H)
    by_cases c79:a1l=true
    ·subst c79
     rw[if_pos rfl]at H
     obtain⟨⟨F3,F4,Kh,aCG,aCH⟩,A80,H⟩:=ob H
     (try dsimp only at H)
     simp only[Option.some.injEq,Prod.mk.injEq]at H
     obtain⟨rfl,rfl,rfl,rfl,rfl,rfl,rfl⟩:=H
     have p46:0≤(0:Int):=(by omega)
     have Qe:0<a1.size:=(by have:(0:Int)<(a1.size:Int):=of_decide_eq_true za;omega)
     have anD:∀h:0<a1.size,((a1[0]'h).toNat:Int)=bt a1 0:=gB a1 0
     clear p46
     have anE:(0<(a1.size:Int))=True:=eq_true (of_decide_eq_true za)
     replace Qe:=eq_true Qe
     have p77:0≤(0:Int):=(by omega)
     have q77:0<a1.size:=(by have:(0:Int)<(a1.size:Int):=of_decide_eq_true za;omega)
     have aCJ:∀h:0<a1.size,((a1[0]'h).toNat:Int)=bt a1 0:=gB a1 0
     clear p77
     have aCK:(0<(a1.size:Int))=True:=eq_true (of_decide_eq_true za)
     replace q77:=eq_true q77
     try go_wp2_with (first|((with_reducible refine gq 44 rfl ?_);refine gl (some 66) Tryz.func44 #[.int .i64 (wrap64 (bt a1 0)),.int .i64 16,.int .i64 31] ?_;(with_reducible refine(cK.calls (wrap64 (bt a1 0)) 16 31 true _ A78.out).mono ?_);rintro e w' ⟨rfl,⟨nd,rfl⟩⟩;refine⟨_,rfl,?_⟩;(try(rw[ug w9];generalize dK:World.drewN w9 _=w9;have sV:ah (Kd.R iF 89 w9 w0.heap.size (fun k_=>(ji k_∨w.heap.size≤k_)∧k_≠bT) (.slice Aj aH.length Ak) aH):=⟨by rw[←dK];exact(zr bC)⟩;have sW:ah (w9.heap[vS]?=some (.cells #[.slice Aj aH.length Ak,.int .i64 aA] 25 (0,0))):=⟨by rw[←dK];exact(zk dU)⟩;have uS:ah (w9.heap[dY]?=some (.cells #[.slice none 0 0,.int .i64 0] 25 (0,0))):=⟨by rw[←dK];exact(zk dD)⟩;have uT:ah (w9.heap[bT]?=some (.cells #[.string (⟨#[]⟩:ByteArray),.string (⟨#[]⟩:ByteArray),.bool false] 89 (0,0))):=⟨by rw[←dK];exact(zk dA)⟩;have wR:ah (Kept w w9 (fun _=>False)):=⟨by rw[←dK];exact(by repeat(first|(with_reducible first|exact HK.out|apply Kept.alloc|apply Kept.drewN|apply Kept.drew|refine Kept.setCell ?_ (.inr Og.out) _|refine Kept.setCell ?_ (.inr Oh.out) _|refine Kept.setCell ?_ (.inr Oi.out) _)|exact HK.out))⟩;have wS:ah (Below w0.heap.size w0 w9):=⟨by rw[←dK];exact(zb HB)⟩;clear bC dU dD dA HK HB dK;have bC:=sV;have dU:=sW;have dD:=uS;have dA:=uT;have HK:=wR;have HB:=wS;clear sV sW uS uT wR wS));have anO:=dQ.out;have anP:=jb.out;have anQ:=bW.out;have anR:=gN.out;obtain⟨a96,a97,a98,a99⟩:=c2 dU)|((with_reducible refine gq 118 rfl ?_);refine gl (some 70) Tryz.func118 #[.agg #[.slice Aj aH.length Ak,.int .i64 aA],.string a1,.int .i64 4] ?_;(with_reducible refine(gU.calls k _ _ aH aA a1 4 F3 F4 Kh aCG aCH _ ?aN ?aQ A80.out).mono ?_);(case aN=>exact zc (Kd.R_reads' bC.out).2.2);(case aQ=>exact(Kd.R_reads' bC.out).2.1);rintro e w84 ⟨rfl,hb⟩;refine⟨_,rfl,?_⟩;replace bC:=ah.mk (Kd.R_below (zr bC) hb);replace dU:=kb dU hb;replace dD:=kb dD hb;replace dA:=kb dA hb;replace HK:=kq hb;replace HB:=ah.mk (ai (zb HB) hb);(try clear hb))|((with_reducible refine gd 16 rfl ?_);refine bx (N:=16) (cs:=#[.string (⟨#[]⟩:ByteArray),.string (⟨#[]⟩:ByteArray),.bool false]) (t:=89) ?_;intro iR hg w85 hbox hb;replace bC:=ah.mk (Kd.R_below (Kd.R_elderB (zr bC) iR (Nat.le_of_eq hg.symm)) hb);have CB:=ah.mk (hbox);have aMa:=ah.mk ((by rw[hg];exact(kz (w:=w)).1:w.heap.size≤iR));replace HK:=kq hb;have aMb:=ah.mk ((by rw[hg];exact(aJ (zb HB)):w0.heap.size≤iR));replace HB:=ah.mk (ai (zb HB) hb);obtain⟨XE,XF⟩:=nb dU hg;replace dU:=kb dU hb;obtain⟨BP,mI⟩:=nb dD hg;replace dD:=kb dD hb;obtain⟨wT,jJ⟩:=nb dA hg;replace dA:=kb dA hb;clear hb hbox hg;have aMc:=XF.out;have aMd:=XE.out;have aMe:=mI.out;have aMf:=BP.out;have aMg:=jJ.out;have aMh:=wT.out;obtain⟨awZ,ax0,ax1,ax2,ax3,ax4⟩:=c3 CB))
     have sV:ah (Kd.R iF 89 ((((w85.setCell ⟨iR,0,none⟩ (.string F3)).setCell ⟨iR,1,none⟩ (.string F4)).setCell ⟨iR,2,none⟩ (.bool Kh)).setCell ⟨iR,2,none⟩ (.bool true)) w0.heap.size (fun k_=>(ji k_∨w.heap.size≤k_)∧k_≠bT∧k_≠iR) (.slice Aj aH.length Ak) aH):=⟨(Kd.R_mono (qb (Kd.R_mono bC.out (fun k_ hk=>(⟨hk,hk.2⟩:_∧k_≠iR)))) (fun _ hk=>⟨hk.1.1.1,⟨hk.1.1.2,hk.1.2⟩⟩))⟩
     have sW:ah (((((w85.setCell ⟨iR,0,none⟩ (.string F3)).setCell ⟨iR,1,none⟩ (.string F4)).setCell ⟨iR,2,none⟩ (.bool Kh)).setCell ⟨iR,2,none⟩ (.bool true)).heap[vS]?=some (.cells #[.slice Aj aH.length Ak,.int .i64 aA] 25 (0,0))):=⟨zp dU⟩
     have uS:ah (((((w85.setCell ⟨iR,0,none⟩ (.string F3)).setCell ⟨iR,1,none⟩ (.string F4)).setCell ⟨iR,2,none⟩ (.bool Kh)).setCell ⟨iR,2,none⟩ (.bool true)).heap[dY]?=some (.cells #[.slice none 0 0,.int .i64 0] 25 (0,0))):=⟨zp dD⟩
     have uT:ah (((((w85.setCell ⟨iR,0,none⟩ (.string F3)).setCell ⟨iR,1,none⟩ (.string F4)).setCell ⟨iR,2,none⟩ (.bool Kh)).setCell ⟨iR,2,none⟩ (.bool true)).heap[bT]?=some (.cells #[.string (⟨#[]⟩:ByteArray),.string (⟨#[]⟩:ByteArray),.bool false] 89 (0,0))):=⟨zp dA⟩
     have wR:ah (((((w85.setCell ⟨iR,0,none⟩ (.string F3)).setCell ⟨iR,1,none⟩ (.string F4)).setCell ⟨iR,2,none⟩ (.bool Kh)).setCell ⟨iR,2,none⟩ (.bool true)).heap[iR]?=some (.cells #[.string F3,.string F4,.bool true] 89 (0,0))):=⟨zp CB⟩
     have wS:ah (Kept w ((((w85.setCell ⟨iR,0,none⟩ (.string F3)).setCell ⟨iR,1,none⟩ (.string F4)).setCell ⟨iR,2,none⟩ (.bool Kh)).setCell ⟨iR,2,none⟩ (.bool true)) (fun _=>False)):=⟨kz⟩
     have Gg:ah (Below w0.heap.size w0 ((((w85.setCell ⟨iR,0,none⟩ (.string F3)).setCell ⟨iR,1,none⟩ (.string F4)).setCell ⟨iR,2,none⟩ (.bool Kh)).setCell ⟨iR,2,none⟩ (.bool true))):=⟨zb HB⟩
     (try clear bC)
     (try clear dU)
     (try clear dD)
     (try clear dA)
     (try clear CB)
     (try clear HK)
     (try clear HB)
     generalize((((w85.setCell ⟨iR,0,none⟩ (.string F3)).setCell ⟨iR,1,none⟩ (.string F4)).setCell ⟨iR,2,none⟩ (.bool Kh)).setCell ⟨iR,2,none⟩ (.bool true))=w90 at sV sW uS uT wR wS Gg ⊢
     have bC:=sV
     have dU:=sW
     have dD:=uS
     have dA:=uT
     have CB:=wR
     have HK:=wS
     have HB:=Gg
     clear sV sW uS uT wR wS Gg
     replace bC:=ah.mk (Kd.R_drew bC.out)
     replace dU:=ah.mk (dn dU.out)
     replace dD:=ah.mk (dn dD.out)
     replace dA:=ah.mk (dn dA.out)
     replace CB:=ah.mk (dn CB.out)
     replace HK:=ah.mk (Kept.drew HK.out)
     replace HB:=ah.mk (dG HB.out)
     refine st 8 (an (b2 dU) (b3 CB)) (fun hHeld=>?_);refine bR bQ.tab13 bQ.bits13 (fun HT_ HW_=>?_)
     generalize w90.drew=w91 at bC dU dD dA CB HK HB hHeld ⊢
     refine pu 2 (some 77) (bm 8 4) rfl rfl ?_
     refine pu 3 (some 78) (bm 8 12) rfl rfl ?_
     refine tk 0 (some 75) (bm 8 13) rfl rfl hHeld ?_
     refine tk 1 (some 76) (bm 8 15) rfl rfl hHeld ?_
     refine fV (i:=4) (N:=none) (bm 8 31) rfl rfl (bL HT_.out (by kernel_rfl)) (by decide) (fun K hK=>?_)
     have aQV:w91.cell? ⟨dY,0,none⟩=some (.slice none 0 0):=(au dD.out 0).trans rfl
     have aMi:=ak dD.out 0
     have ax5:=dQ.out
     have ax6:=fB.out
     have ax7:=mI.out
     have ax8:=jb.out
     have ax9:=fA.out
     have axa:=BP.out
     have aQW:w91.cell? ⟨dY,1,none⟩=some (.int .i64 0):=(au dD.out 1).trans rfl
     have aMj:=ak dD.out 1
     have axb:=dQ.out
     have axc:=fB.out
     have axd:=mI.out
     have axe:=jb.out
     have axf:=fA.out
     have axg:=BP.out
     refine oW (w1:=?_) (by rfl) rfl ?_ ?_
     rotate_left
     ·go_simp
      rfl
     refine hK.out _ _ (an ⟨((cell_far (p:=⟨dY,_,none⟩) dQ.out _).trans (((cell_far (p:=⟨dY,_,none⟩) dQ.out _).trans (hHeld.1.1)))),((cell_far (p:=⟨dY,_,none⟩) dQ.out _).trans (((cell_far (p:=⟨dY,_,none⟩) dQ.out _).trans (hHeld.1.2))))⟩ ⟨((cell_far (p:=⟨dY,_,none⟩) mI.out _).trans (((cell_far (p:=⟨dY,_,none⟩) mI.out _).trans (hHeld.2.1)))),((cell_far (p:=⟨dY,_,none⟩) mI.out _).trans (((cell_far (p:=⟨dY,_,none⟩) mI.out _).trans (hHeld.2.2.1)))),((cell_far (p:=⟨dY,_,none⟩) mI.out _).trans (((cell_far (p:=⟨dY,_,none⟩) mI.out _).trans (hHeld.2.2.2))))⟩) (fun hHeld=>?_)
     clear hK K
     refine fV (i:=5) (N:=none) (bm 8 63) rfl rfl (bL HT_.out (by kernel_rfl)) (by decide) (fun K hK=>?_)
     have aQX:w91.cell? ⟨bT,0,none⟩=some (.string (⟨#[]⟩:ByteArray)):=(au dA.out 0).trans rfl
     have aMk:=ak dA.out 0
     have axh:=bW.out
     have axi:=fA.out
     have axj:=jJ.out
     have axk:=gN.out
     have axl:=fB.out
     have axm:=wT.out
     have aQY:w91.cell? ⟨bT,1,none⟩=some (.string (⟨#[]⟩:ByteArray)):=(au dA.out 1).trans rfl
     have aMl:=ak dA.out 1
     have axn:=bW.out
     have axo:=fA.out
     have axp:=jJ.out
     have axq:=gN.out
     have axr:=fB.out
     have axs:=wT.out
     have aQZ:w91.cell? ⟨bT,2,none⟩=some (.bool false):=(au dA.out 2).trans rfl
     have aMm:=ak dA.out 2
     have axt:=bW.out
     have axu:=fA.out
     have axv:=jJ.out
     have axw:=gN.out
     have axx:=fB.out
     have axy:=wT.out
     refine oW (w1:=?_) (by rfl) rfl ?_ ?_
     rotate_left
     ·go_simp
      rfl
     refine hK.out _ _ (an ⟨((cell_far (p:=⟨bT,_,none⟩) bW.out _).trans (((cell_far (p:=⟨bT,_,none⟩) bW.out _).trans (((cell_far (p:=⟨bT,_,none⟩) bW.out _).trans (hHeld.1.1)))))),((cell_far (p:=⟨bT,_,none⟩) bW.out _).trans (((cell_far (p:=⟨bT,_,none⟩) bW.out _).trans (((cell_far (p:=⟨bT,_,none⟩) bW.out _).trans (hHeld.1.2))))))⟩ ⟨((cell_far (p:=⟨bT,_,none⟩) jJ.out _).trans (((cell_far (p:=⟨bT,_,none⟩) jJ.out _).trans (((cell_far (p:=⟨bT,_,none⟩) jJ.out _).trans (hHeld.2.1)))))),((cell_far (p:=⟨bT,_,none⟩) jJ.out _).trans (((cell_far (p:=⟨bT,_,none⟩) jJ.out _).trans (((cell_far (p:=⟨bT,_,none⟩) jJ.out _).trans (hHeld.2.2.1)))))),((cell_far (p:=⟨bT,_,none⟩) jJ.out _).trans (((cell_far (p:=⟨bT,_,none⟩) jJ.out _).trans (((cell_far (p:=⟨bT,_,none⟩) jJ.out _).trans (hHeld.2.2.2))))))⟩) (fun hHeld=>?_)
     clear hK K
     refine pu 6 (some 6) (bm 8 127) rfl rfl ?_
     refine pu 7 (some 7) (bm 8 255) rfl rfl ?_
     refine fw (dM HT_.out (by kernel_rfl)) ?_
     try go_wp2
     refine bodyPost_ret (mq (rs:=[.cell 4 25,.cell 5 89,.tmp 6,.tmp 7]) rfl (by simp) (.cell dY 25 #[.slice Aj aH.length Ak,.int .i64 aA] (0,0) _ rfl (zp dD) Tryz.underlying25 rfl (by kernel_rfl) (.cell bT 89 #[.string F3,.string F4,.bool true] (0,0) _ rfl (zp dA) Tryz.underlying89 rfl (by kernel_rfl) (.tmp (.tmp .nil))))) rfl ?_
     exact⟨_,ze,(Kd.R_mono (qb (Kd.R_mono (Kd.R_types bC.out dD.out (by decide)) (fun k_ hk=>(⟨hk,hk.1.2.1⟩:_∧k_≠bT)))) (fun _ hk=>hk.1.1.1)),zb HB,kz⟩
    ·replace c79:=Bool.eq_false_iff.mpr c79
     subst c79
     rw[if_neg (show ¬(false=true) by decide)]at H
     simp only[Option.some.injEq,Prod.mk.injEq]at H
     obtain⟨rfl,rfl,rfl,rfl,rfl,rfl,rfl⟩:=H
     have p46:0≤(0:Int):=(by omega)
     have Qe:0<a1.size:=(by have:(0:Int)<(a1.size:Int):=of_decide_eq_true za;omega)
     have anD:∀h:0<a1.size,((a1[0]'h).toNat:Int)=bt a1 0:=gB a1 0
     clear p46
     have anE:(0<(a1.size:Int))=True:=eq_true (of_decide_eq_true za)
     replace Qe:=eq_true Qe
     have p77:0≤(0:Int):=(by omega)
     have q77:0<a1.size:=(by have:(0:Int)<(a1.size:Int):=of_decide_eq_true za;omega)
     have aCJ:∀h:0<a1.size,((a1[0]'h).toNat:Int)=bt a1 0:=gB a1 0
     clear p77
     have aCK:(0<(a1.size:Int))=True:=eq_true (of_decide_eq_true za)
     replace q77:=eq_true q77
     go_wp2_with (first|((with_reducible refine gq 44 rfl ?_);refine gl (some 66) Tryz.func44 #[.int .i64 (wrap64 (bt a1 0)),.int .i64 16,.int .i64 31] ?_;(with_reducible refine(cK.calls (wrap64 (bt a1 0)) 16 31 false _ A78.out).mono ?_);rintro e w' ⟨rfl,⟨nd,rfl⟩⟩;refine⟨_,rfl,?_⟩;(try(rw[ug w9];generalize dK:World.drewN w9 _=w9;have sV:ah (Kd.R iF 89 w9 w0.heap.size (fun k_=>(ji k_∨w.heap.size≤k_)∧k_≠bT) (.slice Aj aH.length Ak) aH):=⟨by rw[←dK];exact(zr bC)⟩;have sW:ah (w9.heap[vS]?=some (.cells #[.slice Aj aH.length Ak,.int .i64 aA] 25 (0,0))):=⟨by rw[←dK];exact(zk dU)⟩;have uS:ah (w9.heap[dY]?=some (.cells #[.slice none 0 0,.int .i64 0] 25 (0,0))):=⟨by rw[←dK];exact(zk dD)⟩;have uT:ah (w9.heap[bT]?=some (.cells #[.string (⟨#[]⟩:ByteArray),.string (⟨#[]⟩:ByteArray),.bool false] 89 (0,0))):=⟨by rw[←dK];exact(zk dA)⟩;have wR:ah (Kept w w9 (fun _=>False)):=⟨by rw[←dK];exact(by repeat(first|(with_reducible first|exact HK.out|apply Kept.alloc|apply Kept.drewN|apply Kept.drew|refine Kept.setCell ?_ (.inr Og.out) _|refine Kept.setCell ?_ (.inr Oh.out) _|refine Kept.setCell ?_ (.inr Oi.out) _)|exact HK.out))⟩;have wS:ah (Below w0.heap.size w0 w9):=⟨by rw[←dK];exact(zb HB)⟩;clear bC dU dD dA HK HB dK;have bC:=sV;have dU:=sW;have dD:=uS;have dA:=uT;have HK:=wR;have HB:=wS;clear sV sW uS uT wR wS));have aMn:=dQ.out;have aMo:=jb.out;have aMp:=bW.out;have aMq:=gN.out;obtain⟨axz,axA,axB,axC⟩:=c2 dU;have aCL:=fA.out;have aCM:=fB.out;obtain⟨anT,anU,anV,anW⟩:=c2 dD;obtain⟨anX,anY,anZ,ao0,ao1,ao2⟩:=c3 dA))
     refine bodyPost_ret (mq (rs:=[.cell 4 25,.cell 5 89,.tmp 6,.tmp 7]) rfl (by simp) (.cell dY 25 #[.slice Aj aH.length Ak,.int .i64 aA] (0,0) _ rfl (zp dD) Tryz.underlying25 rfl (by kernel_rfl) (.cell bT 89 #[.string (⟨#[]⟩:ByteArray),.string (⟨#[]⟩:ByteArray),.bool false] (0,0) _ rfl (zp dA) Tryz.underlying89 rfl (by kernel_rfl) (.tmp (.tmp .nil))))) rfl ?_
     exact⟨_,ze,(Kd.R_mono (qb (Kd.R_mono (Kd.R_types bC.out dD.out (by decide)) (fun k_ hk=>(⟨hk,hk.1.2⟩:_∧k_≠bT)))) (fun _ hk=>hk.1.1.1)),zb HB,kz⟩
 ·skip
  exact absurd H (by simp)
def dL.l0:Nat→ByteArray→List (bg)→List (bg)→Int→Option ((List (bg))×Int×(List (bg))×Bool)
 |0,_,_,_,_=>none
 |k+1,x1,x7,VF,VG=>if x1.toList=([]:List UInt8)then(some (VF,VG,x7,true))else((bQ.f k VF VG x1).bind fun Al=>(if Al.2.2.2.2.2.2=true then(if(x7.length:Int)≥6 then(some (([]:List (bg)),0,(([]:List (bg))),false))else(if x7.length<3518437208883 then(if 0≤Al.2.2.2.2.2.1 then(if Al.2.2.2.2.2.1≤(x1.size:Int)then(dL.l0 k (x1.extract (Al.2.2.2.2.2.1:Int).toNat x1.size) (x7++[(⟨Al.2.2.1,Al.2.2.2.1,Al.2.2.2.2.1⟩:bg)]) Al.1 Al.2.1)else(none))else(none))else(none)))else(some (([]:List (bg)),0,(([]:List (bg))),false))))
def dL.f(k:Nat)(aH:List (bg))(aA:Int)(a1:ByteArray):Option ((List (bg))×Int×(List (bg))×Bool):=dL.l0 k a1 (([]:List (bg))) aH aA
theorem dL.mono_l:∀k,(∀y0 y1 y2 y3,gV (dL.l0 k y0 y1 y2 y3) (dL.l0 (k+1) y0 y1 y2 y3))
 |0=>fun _ _ _ _ r h=>by simp[dL.l0]at h
 |k+1=>by
  have ng:=dL.mono_l k
  ·intro y0 y1 y2 y3
   unfold dL.l0
   have m0:=@bQ.mono
   exact zm
theorem dL.mono:∀a0 a1 a2 k,gV (dL.f k a0 a1 a2) (dL.f (k+1) a0 a1 a2):=by
 intro a0 a1 a2 k
 have ng:=dL.mono_l k
 unfold dL.f
 have m0:=@bQ.mono
 exact zm
theorem dL.calls(k:Nat)(ji:Nat→Prop)(kW:Value)(aH:List (bg))(aA:Int)(a1:ByteArray)(r1:List (bg))(r2:Int)(r3:List (bg))(r4:Bool)(w0 w:World)(hB:Below w0.heap.size w0 w)(EZ:Kd.R iF 89 w w0.heap.size ji kW aH)(h:dL.f k aH aA a1=some (r1,r2,r3,r4)):
 Calls Tryz.prog 106 #[.agg #[kW,.int .i64 aA],.string a1] w fun e w'=>∃vk v2_:Value,e= .returned (.tuple #[.agg #[vk,.int .i64 r2],v2_,.bool r4])∧Kd.R iF 89 w' w0.heap.size (fun k_=>(ji k_∨w.heap.size≤k_)∧some k_≠(v2_:Value).ownBlock) vk r1∧Kd.R iF 89 w' w0.heap.size (fun k_=>(False∨w.heap.size≤k_)∧some k_≠(vk:Value).ownBlock) v2_ r3∧Below w0.heap.size w0 w'∧Kept w w' (fun _=>False):=by
 have zB:=Tryz.underlying25
 have rZ:=Tryz.underlying89
 have bC:=ah.mk (show Kd.R iF 89 w w0.heap.size (fun k_=>(ji k_∨w.heap.size≤k_)) kW aH from Kd.R_mono EZ (fun k_ hk=>(.inl hk)))
 have HK:=ah.mk (Kept.refl w (fun _=>False))
 have HW0:=ah.mk hB.size
 have HB:=ah.mk hB
 clear hB
 have H:(dL.l0 k a1 (([]:List (bg))) aH aA)=some (r1,r2,r3,r4):=h
 clear h
 obtain⟨ao3,Ol⟩:∃y_:List (bg),y_=(([]:List (bg))):=⟨_,rfl⟩
 replace H:(dL.l0 k a1 ao3 aH aA)=some (r1,r2,r3,r4):=by first|(rw[Ol];with_reducible exact H)|(have fF:=(Option.bind_some _ _).symm.trans H;rw[Ol];with_reducible exact fF)|(have fF:=(Option.bind_some _ _).symm.trans H;with_reducible exact fF)|with_reducible exact H|(rw[Ol];exact H)|exact H
 have acK:=ah.mk Ol
 clear Ol
 have H':=ah.mk H
 clear H
 obtain⟨Ao3,co3,eo3⟩:=Kd.R_slice bC.out
 subst eo3
 go_enter Tryz.func106,Tryz.ntmps106
 go_wp2_with (first|((with_reducible refine gd 2 rfl ?_);(try(refine aM (by rfl) ?_;dsimp only));refine bx (N:=2) (cs:=#[.slice Ao3 aH.length co3,.int .i64 aA]) (t:=25) ?_;intro Hr hg w4 hbox hb;replace bC:=ah.mk (Kd.R_below (zr bC) hb);have iT:=ah.mk (hbox);have kG:=ah.mk ((by rw[hg];exact(by first|exact HK.out.1|exact(show Kept w _ (fun _=>False)from by repeat(first|(with_reducible first|exact HK.out|apply Kept.alloc|apply Kept.drewN|apply Kept.drew)|exact HK.out)).1):w.heap.size≤Hr));replace HK:=ah.mk (Kept.below (S:=(fun _=>False)) (by repeat(first|(with_reducible first|exact HK.out|apply Kept.alloc|apply Kept.drewN|apply Kept.drew)|exact HK.out)) hb);have aMr:=ah.mk ((by rw[hg];exact(aJ (zb HB)):w0.heap.size≤Hr));replace HB:=ah.mk (ai (zb HB) hb);clear hb hbox hg)|((with_reducible refine gd 4 rfl ?_);(try(refine aM (by rfl) ?_;dsimp only));refine bx (N:=4) (cs:=#[.slice none 0 0,.int .i64 0]) (t:=25) ?_;intro Am hg w5 hbox hb;replace bC:=ah.mk (Kd.R_below (zr bC) hb);have iU:=ah.mk (hbox);have kZ:=ah.mk ((by rw[hg];exact(by first|exact HK.out.1|exact(show Kept w _ (fun _=>False)from by repeat(first|(with_reducible first|exact HK.out|apply Kept.alloc|apply Kept.drewN|apply Kept.drew|refine Kept.setCell ?_ (.inr kG.out) _)|exact HK.out)).1):w.heap.size≤Am));replace HK:=ah.mk (Kept.below (S:=(fun _=>False)) (by repeat(first|(with_reducible first|exact HK.out|apply Kept.alloc|apply Kept.drewN|apply Kept.drew|refine Kept.setCell ?_ (.inr kG.out) _)|exact HK.out)) hb);have aMs:=ah.mk ((by rw[hg];exact(aJ (zb HB)):w0.heap.size≤Am));replace HB:=ah.mk (ai (zb HB) hb);obtain⟨tu,tF⟩:=nb iT hg;replace iT:=kb iT hb;clear hb hbox hg)|((with_reducible refine gd 12 rfl ?_);(try(refine aM (by rfl) ?_;dsimp only));refine Kd.R_lit iF _ 89 ?hg (N:=12) ?hd (xs:=([]:List (bg))) (inner:=[]) (ok:=fun _=>True) (okp:=fun _=>True) ?hr ?hp (fun _ hk=>hk) trivial (Below.refl _ _) (Nat.le_refl _) (by simp) ?_;(case hd=>rfl);(case hg=>rfl);(case hr=>first|(go_simp;done)|(go_simp;rfl));(case hp=>exact(dm.none _ _));intro aR0 w6 ho7 hb nE fM;clear nE fM;(first|rw[←acK.out]at ho7|(simp only[Int.reduceToNat]at ho7;rw[←acK.out]at ho7));have ao6:=ah.mk (Kd.R_lower (Kd.R_new' (Kd.R_newM (M:=fun k_=>(False∨w.heap.size≤k_)) ho7 (by first|exact HK.out.1|exact(show Kept w _ (fun _=>False)from by repeat(first|(with_reducible first|exact HK.out|apply Kept.alloc|apply Kept.drewN|apply Kept.drew|refine Kept.setCell ?_ (.inr kG.out) _|refine Kept.setCell ?_ (.inr kZ.out) _)|exact HK.out)).1) (fun k_ h_=>.inr h_)) (Kd.R_lt (zr bC))) (aJ (zb HB)));replace bC:=ah.mk (Kd.R_elder' (zr bC) (Kd.R_base ho7) hb);replace iT:=kb iT hb;replace iU:=kb iU hb;replace HK:=ah.mk (Kept.below (S:=(fun _=>False)) (by repeat(first|(with_reducible first|exact HK.out|apply Kept.alloc|apply Kept.drewN|apply Kept.drew|refine Kept.setCell ?_ (.inr kG.out) _|refine Kept.setCell ?_ (.inr kZ.out) _)|exact HK.out)) hb);replace HB:=ah.mk (ai (zb HB) hb);clear hb ho7))
 go_loopg [1,7] k (fun kq v1 v7 w'=>∃(nY:ByteArray)(fD:List (bg))(jv:List (bg))(lg:Int)(qw:Int)(DW:Value),v1= .string nY∧ah (dL.l0 kq nY fD jv lg=some (r1,r2,r3,r4))∧ah (kq≤k)∧ah (Kd.R iF 89 w' w0.heap.size (fun k_=>(False∨w.heap.size≤k_)∧some k_≠(DW:Value).ownBlock) v7 fD)∧ah (Kd.R iF 89 w' w0.heap.size (fun k_=>(ji k_∨w.heap.size≤k_)∧some k_≠(v7:Value).ownBlock) DW jv)∧ah (w'.heap[Hr]?=some (.cells #[DW,.int .i64 lg] 25 (0,0)))∧ah (w'.heap[Am]?=some (.cells #[(.slice none 0 0),.int .i64 qw] 25 (0,0)))∧ah (Kept w w' (fun _=>False))∧ah (Below w0.heap.size w0 w'))
 case atStart=>exact⟨(a1),(ao3),(aH),(aA),(0),(.slice Ao3 aH.length co3),zs,H',⟨Nat.le_refl _⟩,⟨zq (Kd.R_mono ao6.out (fun _ hk=>⟨hk.1.1,hk.2⟩))⟩,⟨by exact zr bC⟩,⟨by exact zk iT⟩,⟨by exact zk iU⟩,⟨by repeat(first|(with_reducible first|exact HK.out|apply Kept.alloc|apply Kept.drewN|apply Kept.drew|refine Kept.setCell ?_ (.inr kG.out) _|refine Kept.setCell ?_ (.inr kZ.out) _)|exact HK.out)⟩,⟨zb HB⟩⟩
 case round=>
  clear H'
  try clear c1
  try clear p2
  obtain⟨nY,fD,jv,lg,qw,DW,rfl,HA,jc,HO_7,HO_594000,iT,iU,HK,HB⟩:=hrel
  cases gk with
  |zero=>exact absurd HA.out (by simp[dL.l0])
  |succ k1=>
   have H:=HA.out
   clear HA
   simp only[dL.l0]at H
   replace H:=sp H
   rcases H with⟨c8,H⟩|⟨c8,H⟩
   ·skip
    have c8b0:(nY.toList==([]:List UInt8))=true:=beq_iff_eq.mpr c8
    have c8b1:(nY.toList != ([]:List UInt8))=false:=bne_eq_false_iff_eq.mpr c8
    clear c8
    simp only[Option.some.injEq,Prod.mk.injEq]at H
    obtain⟨rfl,rfl,rfl,rfl⟩:=H
    have am8:=tu.out
    have am9:=tF.out
    obtain⟨Dy,Dz,DC,DF⟩:=c2 iT
    obtain⟨a8D,a8E,a18⟩:=Kd.R_slice HO_594000.out
    subst a18
    obtain⟨UD,UE,a7F,UF⟩:=c2 iU
    go_wp2
    refine bodyPost_ret (fJ rfl _ _ Am 25 #[.slice a8D jv.length a8E,.int .i64 lg] (0,0) _ rfl (zp iU) Tryz.underlying25 rfl (by kernel_rfl)) rfl ?_
    exact⟨_,_,ze,(Kd.R_mono (qb (Kd.R_types HO_594000.out iU.out (by decide))) (fun _ hk=>⟨hk.1.1,hk.1.2⟩)),(Kd.R_mono (qb (Kd.R_types HO_7.out iU.out (by decide))) (fun _ hk=>⟨hk.1.1,hk.1.2⟩)),zb HB,by repeat(first|(with_reducible first|exact HK.out|apply Kept.alloc|apply Kept.drewN|apply Kept.drew|refine Kept.setCell ?_ (.inr kG.out) _|refine Kept.setCell ?_ (.inr kZ.out) _)|exact HK.out)⟩
   ·skip
    have c8b0:(nY.toList==([]:List UInt8))=false:=beq_eq_false_iff_ne.mpr c8
    have c8b1:(nY.toList != ([]:List UInt8))=true:=bne_iff_ne.mpr c8
    obtain⟨⟨Gs,Om,D9,Da,Db,Oo,aCO⟩,A13,H⟩:=ob H
    (try dsimp only at H)
    by_cases c14:aCO=true
    ·subst c14
     rw[if_pos rfl]at H
     have ao7:=ah.mk H
     clear H
     have a0W:=tu.out
     have a0X:=tF.out
     obtain⟨wG,wH,wI,wJ⟩:=c2 iT
     obtain⟨D8,BG,NJ⟩:=Kd.R_slice HO_594000.out
     subst NJ
     go_upto_if 29 with(first|((with_reducible refine gq 111 rfl ?_);refine gl (some 18) Tryz.func111 #[.agg #[.slice D8 jv.length BG,.int .i64 lg],.string nY] ?_;(with_reducible refine(bQ.calls k1 (fun k_=>some k_=(.slice D8 jv.length BG:Value).ownBlock) (.slice D8 jv.length BG) jv lg nY Gs Om D9 Da Db Oo true w0 _ ?aN ?aQ A13.out).mono ?_);(case aN=>exact zb HB);(case aQ=>exact Kd.R_tight rfl HO_594000.out);rintro e w19 ⟨ag1,rfl,ho0,hb,hkp⟩;refine⟨_,rfl,?_⟩;replace iT:=ah.mk (mR (zk iT) hkp (fun h_=>h_));replace iU:=ah.mk (mR (zk iU) hkp (fun h_=>h_));have mX:=ah.mk (Kd.R_mono (ok':=fun k_=>(ji k_∨w.heap.size≤k_)∧some k_≠(u7:Value).ownBlock) ho0 (fun k_ Oq=>⟨Or.elim Oq (fun hs_=>(HO_594000.out.1 k_ (hs_).symm).1) (fun QW=>(.inr (Nat.le_trans (by first|exact HK.out.1|exact(show Kept w _ (fun _=>False)from by repeat(first|(with_reducible first|exact HK.out|apply Kept.alloc|apply Kept.drewN|apply Kept.drew|refine Kept.setCell ?_ (.inr kG.out) _|refine Kept.setCell ?_ (.inr kZ.out) _)|exact HK.out)).1) QW))),Or.elim Oq (fun hs_=>fun e_=>(((HO_7.out).1 k_ e_.symm).2) hs_) (fun QW=>(Kd.fresh' (Kd.R_lt (zr HO_7)) k_ QW))⟩));replace HO_7:=ah.mk (Kd.R_mono (ok':=fun k_=>(False∨w.heap.size≤k_)∧some k_≠(ag1:Value).ownBlock) (Kd.R_keptB (HO_7.out) hkp (fun _ _ h_=>h_)) (fun k_ Oq=>⟨Oq.1.1,fun e_=>Or.elim (ho0.1 k_ e_.symm) (fun hs_=>Oq.1.2 hs_) (fun QW=>Nat.not_le.2 Oq.2.2 QW)⟩));replace HK:=ah.mk (Kept.then_ (S:=(fun _=>False)) (by repeat(first|(with_reducible first|exact HK.out|apply Kept.alloc|apply Kept.drewN|apply Kept.drew|refine Kept.setCell ?_ (.inr kG.out) _|refine Kept.setCell ?_ (.inr kZ.out) _)|exact HK.out)) hkp (fun _ h_=>h_.elim));replace HB:=ah.mk (hb);clear HO_594000;(try clear hb);(try clear hkp);(try clear ho0))|((with_reducible refine gd 8 rfl ?_);(try(refine aM (by rfl) ?_;dsimp only));refine bx (N:=8) (cs:=#[.slice none 0 0,.int .i64 0]) (t:=25) ?_;intro CF hg w20 hbox hb;replace HO_7:=ah.mk (Kd.R_below (zr HO_7) hb);replace mX:=ah.mk (Kd.R_below (zr mX) hb);have jY:=ah.mk (hbox);have rP:=ah.mk ((by rw[hg];exact(by first|exact HK.out.1|exact(show Kept w _ (fun _=>False)from by repeat(first|(with_reducible first|exact HK.out|apply Kept.alloc|apply Kept.drewN|apply Kept.drew|refine Kept.setCell ?_ (.inr kG.out) _|refine Kept.setCell ?_ (.inr kZ.out) _)|exact HK.out)).1):w.heap.size≤CF));replace HK:=ah.mk (Kept.below (S:=(fun _=>False)) (by repeat(first|(with_reducible first|exact HK.out|apply Kept.alloc|apply Kept.drewN|apply Kept.drew|refine Kept.setCell ?_ (.inr kG.out) _|refine Kept.setCell ?_ (.inr kZ.out) _)|exact HK.out)) hb);have ao8:=ah.mk ((by rw[hg];exact(aJ (zb HB)):w0.heap.size≤CF));replace HB:=ah.mk (ai (zb HB) hb);obtain⟨wU,wV⟩:=nb iT hg;replace iT:=kb iT hb;obtain⟨tH,tJ⟩:=nb iU hg;replace iU:=kb iU hb;clear hb hbox hg)|((with_reducible refine gd 9 rfl ?_);(try(refine aM (by rfl) ?_;dsimp only));refine bx (N:=9) (cs:=#[.string (⟨#[]⟩:ByteArray),.string (⟨#[]⟩:ByteArray),.bool false]) (t:=89) ?_;intro jZ hg w21 hbox hb;replace HO_7:=ah.mk (Kd.R_below (Kd.R_elderB (zr HO_7) jZ (Nat.le_of_eq hg.symm)) hb);replace mX:=ah.mk (Kd.R_below (Kd.R_elderB (zr mX) jZ (Nat.le_of_eq hg.symm)) hb);have tK:=ah.mk (hbox);have xR:=ah.mk ((by rw[hg];exact(by first|exact HK.out.1|exact(show Kept w _ (fun _=>False)from by repeat(first|(with_reducible first|exact HK.out|apply Kept.alloc|apply Kept.drewN|apply Kept.drew|refine Kept.setCell ?_ (.inr kG.out) _|refine Kept.setCell ?_ (.inr kZ.out) _|refine Kept.setCell ?_ (.inr rP.out) _)|exact HK.out)).1):w.heap.size≤jZ));replace HK:=ah.mk (Kept.below (S:=(fun _=>False)) (by repeat(first|(with_reducible first|exact HK.out|apply Kept.alloc|apply Kept.drewN|apply Kept.drew|refine Kept.setCell ?_ (.inr kG.out) _|refine Kept.setCell ?_ (.inr kZ.out) _|refine Kept.setCell ?_ (.inr rP.out) _)|exact HK.out)) hb);have ao9:=ah.mk ((by rw[hg];exact(aJ (zb HB)):w0.heap.size≤jZ));replace HB:=ah.mk (ai (zb HB) hb);obtain⟨wW,wX⟩:=nb iT hg;replace iT:=kb iT hb;obtain⟨tL,tN⟩:=nb iU hg;replace iU:=kb iU hb;obtain⟨wY,wZ⟩:=nb jY hg;replace jY:=kb jY hb;clear hb hbox hg;obtain⟨a1p,a1q,aCP⟩:=Kd.R_slice mX.out;subst aCP;have aoa:=wV.out;have aob:=wU.out;have aMt:=tJ.out;have aMu:=tH.out;have ac8:=wY.out;have ac9:=wZ.out;obtain⟨JJ,JK,JL,JM⟩:=c2 jY;have aoc:=wX.out;have aod:=wW.out;have aMv:=tN.out;have aMw:=tL.out;obtain⟨J5,J6,J7,J8,J9,Ja⟩:=c3 tK;obtain⟨aCQ,aCR,aCS⟩:=Kd.R_slice HO_7.out;subst aCS))
     (try simp only[Act.put,s1,s2,s3])
     have H:=ao7.out
     clear ao7
     replace H:=sp H
     rcases H with⟨c31,H⟩|⟨c31,H⟩
     ·skip
      have c31b0:=decide_eq_true c31
      have c31b1:=decide_eq_true (by omega)
      clear c31
      (first|rw[c31b0]|rw[c31b1]|rw[c31b2]|(simp only[iC,iQ];rw[c31b0])|skip)
      obtain⟨aCT,Ot⟩:∃y_:List (bg),y_=(([]:List (bg))):=⟨_,rfl⟩
      replace H:(some (([]:List (bg)),0,aCT,false))=some (r1,r2,r3,r4):=by first|(rw[Ot];with_reducible exact H)|(have fF:=(Option.bind_some _ _).symm.trans H;rw[Ot];with_reducible exact fF)|(have fF:=(Option.bind_some _ _).symm.trans H;with_reducible exact fF)|with_reducible exact H|(rw[Ot];exact H)|exact H
      have acL:=ah.mk Ot
      clear Ot
      simp only[Option.some.injEq,Prod.mk.injEq]at H
      obtain⟨rfl,rfl,rfl,rfl⟩:=H
      go_wp2_with (first|((with_reducible refine gd 31 rfl ?_);(try(refine aM (by rfl) ?_;dsimp only));refine Kd.R_lit iF _ 89 ?hg (N:=31) ?hd (xs:=([]:List (bg))) (inner:=[]) (ok:=fun _=>True) (okp:=fun _=>True) ?hr ?hp (fun _ hk=>hk) trivial (Below.refl _ _) (Nat.le_refl _) (by simp) ?_;(case hd=>rfl);(case hg=>rfl);(case hr=>first|(go_simp;done)|(go_simp;rfl));(case hp=>exact(dm.none _ _));intro aR1 w32 QX hb nE fM;clear nE fM;(first|rw[←acL.out]at QX|(simp only[Int.reduceToNat]at QX;rw[←acL.out]at QX));have aoe:=ah.mk (Kd.R_lower (Kd.R_newB (Kd.R_new' (Kd.R_new' (Kd.R_newM (M:=fun k_=>(False∨w.heap.size≤k_)) QX (show Kept w _ (fun _=>False)from by repeat(first|(with_reducible first|exact HK.out|apply Kept.alloc|apply Kept.drewN|apply Kept.drew|refine Kept.setCell ?_ (.inr kG.out) _|refine Kept.setCell ?_ (.inr kZ.out) _|refine Kept.setCell ?_ (.inr rP.out) _|refine Kept.setCell ?_ (.inr xR.out) _)|exact HK.out)).1 (fun k_ h_=>.inr h_)) (Kd.R_lt (((Kd.R_mono (Kd.R_mono (qb (Kd.R_mono (Kd.R_types HO_7.out jY.out (by decide)) (fun k_ hk=>(⟨hk,hk.1.2⟩:_∧k_≠jZ)))) (fun _ h_=>h_.1)) (fun _ h_=>h_.1)))))) (Kd.R_lt (((Kd.R_mono (Kd.R_mono (qb (Kd.R_mono (Kd.R_types mX.out jY.out (by decide)) (fun k_ hk=>(⟨hk,hk.1.2⟩:_∧k_≠jZ)))) (fun _ h_=>h_.1)) (fun _ h_=>h_.1)))))) (g:=jZ) (o:=.cells #[.string D9,.string Da,.bool Db] 89 (0,0)) (zp tK)) (aJ (zb HB)));replace HO_7:=ah.mk (Kd.R_elder' (((Kd.R_mono (Kd.R_mono (qb (Kd.R_mono (Kd.R_types HO_7.out jY.out (by decide)) (fun k_ hk=>(⟨hk,hk.1.2⟩:_∧k_≠jZ)))) (fun _ h_=>h_.1)) (fun _ h_=>h_.1)))) (Kd.R_base QX) hb);replace mX:=ah.mk (Kd.R_elder' (((Kd.R_mono (Kd.R_mono (qb (Kd.R_mono (Kd.R_types mX.out jY.out (by decide)) (fun k_ hk=>(⟨hk,hk.1.2⟩:_∧k_≠jZ)))) (fun _ h_=>h_.1)) (fun _ h_=>h_.1)))) (Kd.R_base QX) hb);replace iT:=ah.mk (dX (g:=Hr) (o:=.cells #[.slice D8 jv.length BG,.int .i64 lg] 25 (0,0)) (zp iT) hb);replace iU:=ah.mk (dX (g:=Am) (o:=.cells #[.slice none 0 0,.int .i64 qw] 25 (0,0)) (zp iU) hb);replace jY:=ah.mk (dX (g:=CF) (o:=.cells #[.slice a1p Gs.length a1q,.int .i64 Om] 25 (0,0)) (zp jY) hb);replace tK:=ah.mk (dX (g:=jZ) (o:=.cells #[.string D9,.string Da,.bool Db] 89 (0,0)) (zp tK) hb);replace HK:=ah.mk (Kept.below (S:=(fun _=>False)) (by repeat(first|(with_reducible first|exact HK.out|apply Kept.alloc|apply Kept.drewN|apply Kept.drew|refine Kept.setCell ?_ (.inr kG.out) _|refine Kept.setCell ?_ (.inr kZ.out) _|refine Kept.setCell ?_ (.inr rP.out) _|refine Kept.setCell ?_ (.inr xR.out) _)|exact HK.out)) hb);replace HB:=ah.mk (ai (zb HB) hb);clear hb QX;have acD:=tF.out;have acE:=tu.out;have anx:=tH.out;have anz:=tJ.out;have a1m:=tL.out;have a1n:=tN.out;obtain⟨Dt,Du,Dv,Dw⟩:=c2 iU))
      refine bodyPost_ret (fJ rfl _ _ Am 25 #[.slice none 0 0,.int .i64 0] (0,0) _ rfl (zp iU) Tryz.underlying25 rfl (by kernel_rfl)) rfl ?_
      exact⟨_,_,ze,by first|exact Kd.R_nil _ _ _ _ _|exact Kd.N_nil _ _ _ _ _|exact Kd.V_nil _ _ _ _ _|exact Kd.Q_nil _ _ _ _ _|exact Kd.S_nil _ _ _ _ _,(Kd.R_mono (qb (Kd.R_types aoe.out iU.out (by decide))) (fun _ hk=>⟨hk.1.1.1.1.1,(by simp[Value.ownBlock])⟩)),zb HB,by repeat(first|(with_reducible first|exact HK.out|apply Kept.alloc|apply Kept.drewN|apply Kept.drew|refine Kept.setCell ?_ (.inr kG.out) _|refine Kept.setCell ?_ (.inr kZ.out) _|refine Kept.setCell ?_ (.inr rP.out) _|refine Kept.setCell ?_ (.inr xR.out) _)|exact HK.out)⟩
     ·skip
      have c31b0:=decide_eq_false c31
      have c31b1:=decide_eq_false (by omega)
      clear c31
      (first|rw[c31b0]|rw[c31b1]|rw[c31b2]|(simp only[iC,iQ];rw[c31b0])|skip)
      replace H:=sp H
      rcases H with⟨c38,H⟩|⟨c38,H⟩
      ·skip
       have aof:=ah.mk c38
       clear c38
       obtain⟨aog,Ou⟩:∃y_:List (bg),y_=(fD++[(⟨D9,Da,Db⟩:bg)]):=⟨_,rfl⟩
       replace H:(if 0≤Oo then(if Oo≤(nY.size:Int)then(dL.l0 k1 (nY.extract (Oo:Int).toNat nY.size) aog Gs Om)else(none))else(none))=some (r1,r2,r3,r4):=by first|(rw[Ou];with_reducible exact H)|(have fF:=(Option.bind_some _ _).symm.trans H;rw[Ou];with_reducible exact fF)|(have fF:=(Option.bind_some _ _).symm.trans H;with_reducible exact fF)|with_reducible exact H|(rw[Ou];exact H)|exact H
       have aoh:=ah.mk Ou
       clear Ou
       by_cases JR:0≤Oo
       ·rw[if_pos JR]at H
        have c39b0:=eq_true JR
        have c39b1:=decide_eq_true JR
        clear JR
        by_cases c40:Oo≤(nY.size:Int)
        ·rw[if_pos c40]at H
         have c40b0:=eq_true c40
         have c40b1:=decide_eq_true c40
         clear c40
         have H':=ah.mk H
         clear H
         have aMx:=wV.out
         have aMy:=wU.out
         have abY:=tJ.out
         have abZ:=tH.out
         have ac0:=wY.out
         have ac1:=wZ.out
         obtain⟨Vj,Vk,Vl,Vm⟩:=c2 jY
         have alZ:=tu.out
         have am0:=tF.out
         have aMz:=wW.out
         have aMA:=wX.out
         obtain⟨axD,axE,axF,axG⟩:=c2 iT
         have ana:=tN.out
         have anb:=tL.out
         obtain⟨a7z,a7A,a7B,a7C,a7D,a7E⟩:=c3 tK
         go_wp2_with (first|((with_reducible refine kS (b:=.append) (xs:=#[.tmp 33,.tmp 35]) rfl ?_);(try(refine aM (by rfl) ?_;dsimp only));at_builtin;refine Kd.R_append iF (w0:=w0) w0.heap.size rfl (.tmp 33) (.tmp 35) 23 89 (.agg #[(.string ⟨#[]⟩),(.string ⟨#[]⟩),(.bool false)]) 40 rfl Tryz.underlying23 yh rfl (by decide) (by omega) (.slice aCQ fD.length aCR) fD (⟨D9,Da,Db⟩:bg) [.string D9,.string Da,.bool Db] (fun k_=>(False∨w.heap.size≤k_)∧some k_≠(.slice a1p Gs.length a1q:Value).ownBlock∧k_≠jZ) (fun _=>False) rfl (by first|(go_simp;done)|(go_simp;rfl)) ?aP (fun _ hk=>hk.elim) ?aF ?aO ?aB ?aS ?aL ?_;(case aP=>exact lD _ _ _ (⟨D9,Da,Db⟩:bg));(case aB=>exact(zb HB));(case aF=>exact(fun k_ hk=>⟨(.inr (Nat.le_trans (show Kept w _ (fun _=>False)from by repeat(first|(with_reducible first|exact HK.out|apply Kept.alloc|apply Kept.drewN|apply Kept.drew|refine Kept.setCell ?_ (.inr kG.out) _|refine Kept.setCell ?_ (.inr kZ.out) _|refine Kept.setCell ?_ (.inr rP.out) _|refine Kept.setCell ?_ (.inr xR.out) _)|exact HK.out)).1 hk)),Kd.fresh' (Kd.R_lt (((Kd.R_mono (Kd.R_mono (Kd.R_mono (qb (Kd.R_types (Kd.R_mono (Kd.R_types mX.out jY.out (by decide)) (fun k_ hk=>(⟨hk,hk.1.2⟩:_∧k_≠jZ))) iT.out (by decide))) (fun _ h_=>h_.1)) (fun _ h_=>h_.1)) (fun _ h_=>h_.1))))) k_ hk,Kd.freshB (g:=jZ) (o:=.cells #[.string D9,.string Da,.bool Db] 89 (0,0)) (zp tK) k_ hk⟩));(case aO=>exact((Kd.R_mono (qb (Kd.R_types (Kd.R_mono (Kd.R_types HO_7.out jY.out (by decide)) (fun k_ hk=>(⟨hk,hk.1.2⟩:_∧k_≠jZ))) iT.out (by decide))) (fun _ hk=>⟨hk.1.1.1.1.1,⟨hk.1.1.1.1.2,hk.1.1.1.2⟩⟩))));(case aS=>exact(aJ (zb HB)));(case aL=>have:=aof.out;omega);intro aR2 w50 ho hb hg hat;rw[←aoh.out]at ho;replace iU:=ah.mk (jI (g:=Am) (o:=.cells #[.slice none 0 0,.int .i64 qw] 25 (0,0)) (zp iU) hg (Kd.R_ne HO_7.out iU.out (by decide)));replace mX:=ah.mk (Kd.R_after (ok:=(fun k_=>(ji k_∨w.heap.size≤k_)∧k_≠jZ)) ((Kd.R_mono (qb (Kd.R_types (Kd.R_mono (Kd.R_types mX.out jY.out (by decide)) (fun k_ hk=>(⟨hk,hk.1.2⟩:_∧k_≠jZ))) iT.out (by decide))) (fun _ hk=>⟨⟨hk.1.1.1.1.1,hk.1.1.1.2⟩,hk.1.1.1.1.2⟩))) hg hat);replace iT:=ah.mk (jI (g:=Hr) (o:=.cells #[.slice a1p Gs.length a1q,.int .i64 Om] 25 (0,0)) (zp iT) hg (Kd.R_ne HO_7.out iT.out (by decide)));replace jY:=ah.mk (jI (g:=CF) (o:=.cells #[.slice a1p Gs.length a1q,.int .i64 Om] 25 (0,0)) (zp jY) hg (Kd.R_ne HO_7.out jY.out (by decide)));replace tK:=ah.mk (jI (g:=jZ) (o:=.cells #[.string D9,.string Da,.bool Db] 89 (0,0)) (zp tK) hg (Kd.R_away HO_7.out (fun _ hk=>hk.2)));replace HB:=ah.mk (hb);replace HK:=ah.mk (Kept.of_grown (S:=(fun _=>False)) hg (by repeat(first|(with_reducible first|exact HK.out|apply Kept.alloc|apply Kept.drewN|apply Kept.drew|refine Kept.setCell ?_ (.inr kG.out) _|refine Kept.setCell ?_ (.inr kZ.out) _|refine Kept.setCell ?_ (.inr rP.out) _|refine Kept.setCell ?_ (.inr xR.out) _)|exact HK.out)) (fun k_ e_=>(HO_7.out.1 k_ e_).1.1));have aoi:=ah.mk (ho);clear HO_7;clear ho hb hg hat))
         go_roundg k1
         case measure=>have:=jc.out;omega
         case rel=>exact⟨(nY.extract (Oo:Int).toNat nY.size),(aog),(Gs),(Om),(qw),(.slice a1p Gs.length a1q),zs,H',⟨by have:=jc.out;omega⟩,⟨zq (Kd.R_mono aoi.out (fun _ hk=>⟨hk.1,hk.2.1⟩))⟩,⟨zq (Kd.R_mono mX.out (fun _ hk=>⟨hk.1.1,hk.2⟩))⟩,⟨by exact zk iT⟩,⟨by exact zk iU⟩,⟨by repeat(first|(with_reducible first|exact HK.out|apply Kept.alloc|apply Kept.drewN|apply Kept.drew|refine Kept.setCell ?_ (.inr kG.out) _|refine Kept.setCell ?_ (.inr kZ.out) _|refine Kept.setCell ?_ (.inr rP.out) _|refine Kept.setCell ?_ (.inr xR.out) _)|exact HK.out)⟩,⟨zb HB⟩⟩
        ·rw[if_neg c40]at H
         exact absurd H (by simp)
       ·rw[if_neg JR]at H
        exact absurd H (by simp)
      ·skip
       exact absurd H (by simp)
    ·replace c14:=Bool.eq_false_iff.mpr c14
     subst c14
     rw[if_neg (show ¬(false=true) by decide)]at H
     obtain⟨aCV,Ov⟩:∃y_:List (bg),y_=(([]:List (bg))):=⟨_,rfl⟩
     replace H:(some (([]:List (bg)),0,aCV,false))=some (r1,r2,r3,r4):=by first|(rw[Ov];with_reducible exact H)|(have fF:=(Option.bind_some _ _).symm.trans H;rw[Ov];with_reducible exact fF)|(have fF:=(Option.bind_some _ _).symm.trans H;with_reducible exact fF)|with_reducible exact H|(rw[Ov];exact H)|exact H
     have acM:=ah.mk Ov
     clear Ov
     simp only[Option.some.injEq,Prod.mk.injEq]at H
     obtain⟨rfl,rfl,rfl,rfl⟩:=H
     have anF:=tu.out
     have anG:=tF.out
     obtain⟨a8Y,a8Z,a90,a92⟩:=c2 iT
     obtain⟨a1f,a1g,afV⟩:=Kd.R_slice HO_594000.out
     subst afV
     go_wp2_with (first|((with_reducible refine gq 111 rfl ?_);refine gl (some 18) Tryz.func111 #[.agg #[.slice a1f jv.length a1g,.int .i64 lg],.string nY] ?_;(with_reducible refine(bQ.calls k1 (fun k_=>some k_=(.slice a1f jv.length a1g:Value).ownBlock) (.slice a1f jv.length a1g) jv lg nY Gs Om D9 Da Db Oo false w0 _ ?aN ?aQ A13.out).mono ?_);(case aN=>exact zb HB);(case aQ=>exact Kd.R_tight rfl HO_594000.out);rintro e Oj ⟨ag1,rfl,ho0,hb,hkp⟩;refine⟨_,rfl,?_⟩;replace iT:=ah.mk (mR (zk iT) hkp (fun h_=>h_));replace iU:=ah.mk (mR (zk iU) hkp (fun h_=>h_));have mX:=ah.mk (Kd.R_mono (ok':=fun k_=>(ji k_∨w.heap.size≤k_)∧some k_≠(u7:Value).ownBlock) ho0 (fun k_ Oq=>⟨Or.elim Oq (fun hs_=>(HO_594000.out.1 k_ (hs_).symm).1) (fun QW=>(.inr (Nat.le_trans (by first|exact HK.out.1|exact(show Kept w _ (fun _=>False)from by repeat(first|(with_reducible first|exact HK.out|apply Kept.alloc|apply Kept.drewN|apply Kept.drew|refine Kept.setCell ?_ (.inr kG.out) _|refine Kept.setCell ?_ (.inr kZ.out) _)|exact HK.out)).1) QW))),Or.elim Oq (fun hs_=>fun e_=>(((HO_7.out).1 k_ e_.symm).2) hs_) (fun QW=>(Kd.fresh' (Kd.R_lt (zr HO_7)) k_ QW))⟩));replace HO_7:=ah.mk (Kd.R_mono (ok':=fun k_=>(False∨w.heap.size≤k_)∧some k_≠(ag1:Value).ownBlock) (Kd.R_keptB (HO_7.out) hkp (fun _ _ h_=>h_)) (fun k_ Oq=>⟨Oq.1.1,fun e_=>Or.elim (ho0.1 k_ e_.symm) (fun hs_=>Oq.1.2 hs_) (fun QW=>Nat.not_le.2 Oq.2.2 QW)⟩));replace HK:=ah.mk (Kept.then_ (S:=(fun _=>False)) (by repeat(first|(with_reducible first|exact HK.out|apply Kept.alloc|apply Kept.drewN|apply Kept.drew|refine Kept.setCell ?_ (.inr kG.out) _|refine Kept.setCell ?_ (.inr kZ.out) _)|exact HK.out)) hkp (fun _ h_=>h_.elim));replace HB:=ah.mk (hb);clear HO_594000;(try clear hb);(try clear hkp);(try clear ho0))|((with_reducible refine gd 8 rfl ?_);(try(refine aM (by rfl) ?_;dsimp only));refine bx (N:=8) (cs:=#[.slice none 0 0,.int .i64 0]) (t:=25) ?_;intro CF hg w55 hbox hb;replace HO_7:=ah.mk (Kd.R_below (zr HO_7) hb);replace mX:=ah.mk (Kd.R_below (zr mX) hb);have jY:=ah.mk (hbox);have rP:=ah.mk ((by rw[hg];exact(by first|exact HK.out.1|exact(show Kept w _ (fun _=>False)from by repeat(first|(with_reducible first|exact HK.out|apply Kept.alloc|apply Kept.drewN|apply Kept.drew|refine Kept.setCell ?_ (.inr kG.out) _|refine Kept.setCell ?_ (.inr kZ.out) _)|exact HK.out)).1):w.heap.size≤CF));replace HK:=ah.mk (Kept.below (S:=(fun _=>False)) (by repeat(first|(with_reducible first|exact HK.out|apply Kept.alloc|apply Kept.drewN|apply Kept.drew|refine Kept.setCell ?_ (.inr kG.out) _|refine Kept.setCell ?_ (.inr kZ.out) _)|exact HK.out)) hb);have ao8:=ah.mk ((by rw[hg];exact(aJ (zb HB)):w0.heap.size≤CF));replace HB:=ah.mk (ai (zb HB) hb);obtain⟨wU,wV⟩:=nb iT hg;replace iT:=kb iT hb;obtain⟨tH,tJ⟩:=nb iU hg;replace iU:=kb iU hb;clear hb hbox hg)|((with_reducible refine gd 9 rfl ?_);(try(refine aM (by rfl) ?_;dsimp only));refine bx (N:=9) (cs:=#[.string (⟨#[]⟩:ByteArray),.string (⟨#[]⟩:ByteArray),.bool false]) (t:=89) ?_;intro jZ hg w56 hbox hb;replace HO_7:=ah.mk (Kd.R_below (Kd.R_elderB (zr HO_7) jZ (Nat.le_of_eq hg.symm)) hb);replace mX:=ah.mk (Kd.R_below (Kd.R_elderB (zr mX) jZ (Nat.le_of_eq hg.symm)) hb);have tK:=ah.mk (hbox);have xR:=ah.mk ((by rw[hg];exact(by first|exact HK.out.1|exact(show Kept w _ (fun _=>False)from by repeat(first|(with_reducible first|exact HK.out|apply Kept.alloc|apply Kept.drewN|apply Kept.drew|refine Kept.setCell ?_ (.inr kG.out) _|refine Kept.setCell ?_ (.inr kZ.out) _|refine Kept.setCell ?_ (.inr rP.out) _)|exact HK.out)).1):w.heap.size≤jZ));replace HK:=ah.mk (Kept.below (S:=(fun _=>False)) (by repeat(first|(with_reducible first|exact HK.out|apply Kept.alloc|apply Kept.drewN|apply Kept.drew|refine Kept.setCell ?_ (.inr kG.out) _|refine Kept.setCell ?_ (.inr kZ.out) _|refine Kept.setCell ?_ (.inr rP.out) _)|exact HK.out)) hb);have ao9:=ah.mk ((by rw[hg];exact(aJ (zb HB)):w0.heap.size≤jZ));replace HB:=ah.mk (ai (zb HB) hb);obtain⟨wW,wX⟩:=nb iT hg;replace iT:=kb iT hb;obtain⟨tL,tN⟩:=nb iU hg;replace iU:=kb iU hb;obtain⟨wY,wZ⟩:=nb jY hg;replace jY:=kb jY hb;clear hb hbox hg;obtain⟨amS,amT,afY⟩:=Kd.R_slice mX.out;subst afY;have aMB:=wV.out;have aMC:=wU.out;have ani:=tJ.out;have anj:=tH.out;have ank:=wY.out;have anl:=wZ.out;obtain⟨a8O,a8P,a8Q,a8R⟩:=c2 jY;have aMD:=wX.out;have aME:=wW.out;have aMF:=tN.out;have aMG:=tL.out;obtain⟨axH,axI,axJ,axK,axL,axM⟩:=c3 tK)|((with_reducible refine gd 31 rfl ?_);(try(refine aM (by rfl) ?_;dsimp only));refine Kd.R_lit iF _ 89 ?hg (N:=31) ?hd (xs:=([]:List (bg))) (inner:=[]) (ok:=fun _=>True) (okp:=fun _=>True) ?hr ?hp (fun _ hk=>hk) trivial (Below.refl _ _) (Nat.le_refl _) (by simp) ?_;(case hd=>rfl);(case hg=>rfl);(case hr=>first|(go_simp;done)|(go_simp;rfl));(case hp=>exact(dm.none _ _));intro aR3 w65 QY hb nE fM;clear nE fM;(first|rw[←acM.out]at QY|(simp only[Int.reduceToNat]at QY;rw[←acM.out]at QY));have aoj:=ah.mk (Kd.R_lower (Kd.R_newB (Kd.R_new' (Kd.R_new' (Kd.R_newM (M:=fun k_=>(False∨w.heap.size≤k_)) QY (show Kept w _ (fun _=>False)from by repeat(first|(with_reducible first|exact HK.out|apply Kept.alloc|apply Kept.drewN|apply Kept.drew|refine Kept.setCell ?_ (.inr kG.out) _|refine Kept.setCell ?_ (.inr kZ.out) _|refine Kept.setCell ?_ (.inr rP.out) _|refine Kept.setCell ?_ (.inr xR.out) _)|exact HK.out)).1 (fun k_ h_=>.inr h_)) (Kd.R_lt (((Kd.R_mono (Kd.R_mono (qb (Kd.R_mono (Kd.R_types HO_7.out jY.out (by decide)) (fun k_ hk=>(⟨hk,hk.1.2⟩:_∧k_≠jZ)))) (fun _ h_=>h_.1)) (fun _ h_=>h_.1)))))) (Kd.R_lt (((Kd.R_mono (Kd.R_mono (qb (Kd.R_mono (Kd.R_types mX.out jY.out (by decide)) (fun k_ hk=>(⟨hk,hk.1.2⟩:_∧k_≠jZ)))) (fun _ h_=>h_.1)) (fun _ h_=>h_.1)))))) (g:=jZ) (o:=.cells #[.string D9,.string Da,.bool Db] 89 (0,0)) (zp tK)) (aJ (zb HB)));replace HO_7:=ah.mk (Kd.R_elder' (((Kd.R_mono (Kd.R_mono (qb (Kd.R_mono (Kd.R_types HO_7.out jY.out (by decide)) (fun k_ hk=>(⟨hk,hk.1.2⟩:_∧k_≠jZ)))) (fun _ h_=>h_.1)) (fun _ h_=>h_.1)))) (Kd.R_base QY) hb);replace mX:=ah.mk (Kd.R_elder' (((Kd.R_mono (Kd.R_mono (qb (Kd.R_mono (Kd.R_types mX.out jY.out (by decide)) (fun k_ hk=>(⟨hk,hk.1.2⟩:_∧k_≠jZ)))) (fun _ h_=>h_.1)) (fun _ h_=>h_.1)))) (Kd.R_base QY) hb);replace iT:=ah.mk (dX (g:=Hr) (o:=.cells #[.slice a1f jv.length a1g,.int .i64 lg] 25 (0,0)) (zp iT) hb);replace iU:=ah.mk (dX (g:=Am) (o:=.cells #[.slice none 0 0,.int .i64 qw] 25 (0,0)) (zp iU) hb);replace jY:=ah.mk (dX (g:=CF) (o:=.cells #[.slice amS Gs.length amT,.int .i64 Om] 25 (0,0)) (zp jY) hb);replace tK:=ah.mk (dX (g:=jZ) (o:=.cells #[.string D9,.string Da,.bool Db] 89 (0,0)) (zp tK) hb);replace HK:=ah.mk (Kept.below (S:=(fun _=>False)) (by repeat(first|(with_reducible first|exact HK.out|apply Kept.alloc|apply Kept.drewN|apply Kept.drew|refine Kept.setCell ?_ (.inr kG.out) _|refine Kept.setCell ?_ (.inr kZ.out) _|refine Kept.setCell ?_ (.inr rP.out) _|refine Kept.setCell ?_ (.inr xR.out) _)|exact HK.out)) hb);replace HB:=ah.mk (ai (zb HB) hb);clear hb QY;obtain⟨axN,axO,axP,axQ⟩:=c2 iU))
     refine bodyPost_ret (fJ rfl _ _ Am 25 #[.slice none 0 0,.int .i64 0] (0,0) _ rfl (zp iU) Tryz.underlying25 rfl (by kernel_rfl)) rfl ?_
     exact⟨_,_,ze,by first|exact Kd.R_nil _ _ _ _ _|exact Kd.N_nil _ _ _ _ _|exact Kd.V_nil _ _ _ _ _|exact Kd.Q_nil _ _ _ _ _|exact Kd.S_nil _ _ _ _ _,(Kd.R_mono (qb (Kd.R_types aoj.out iU.out (by decide))) (fun _ hk=>⟨hk.1.1.1.1.1,(by simp[Value.ownBlock])⟩)),zb HB,by repeat(first|(with_reducible first|exact HK.out|apply Kept.alloc|apply Kept.drewN|apply Kept.drew|refine Kept.setCell ?_ (.inr kG.out) _|refine Kept.setCell ?_ (.inr kZ.out) _|refine Kept.setCell ?_ (.inr rP.out) _|refine Kept.setCell ?_ (.inr xR.out) _)|exact HK.out)⟩
def bA.l0:Nat→Int→List Int→Int→List (bg)→Int→Option ((List (bg))×Int×Int)
 |0,_,_,_,_,_=>none
 |k+1,x4,x1000,kC,xg,DX=>if x4>0 then((eT.f k x1000 kC).bind fun CG=>((eF.f k CG.1 CG.2.1 CG.2.2.1).bind fun a9a=>(if a9a=true then((dS.f k xg DX CG.1 CG.2.1 CG.2.2.1).bind fun acN=>(bA.l0 k (wrap64 (x4-1)) x1000 CG.2.2.2 acN.1 acN.2))else(bA.l0 k (wrap64 (x4-1)) x1000 CG.2.2.2 xg DX))))else((av.f k x1000 kC 24).bind fun Ow=>(if Ow.1=0 then((some (([(-1),65,3]:List Int):List Int)).bind fun Ox=>((av.f k x1000 Ow.2 3).bind fun Ao=>(if 0≤Ao.1 then(if Ao.1<(Ox.length:Int)then(some (xg,rd Ox Ao.1,Ao.2))else(none))else(none))))else(if Ow.1=1 then((eT.f k x1000 Ow.2).bind fun VH=>((eT.f k x1000 VH.2.2.2).bind fun VI=>((eT.f k x1000 VI.2.2.2).bind fun VJ=>((some (([(⟨VH.1,VH.2.1,VH.2.2.1⟩:bg),(⟨VI.1,VI.2.1,VI.2.2.1⟩:bg),(⟨VJ.1,VJ.2.1,VJ.2.2.1⟩:bg)]:List (bg)):List (bg))).bind fun Ki=>(if xg.length+Ki.length<3518437208883 then(some ((xg++Ki),DX,VJ.2.2.2))else(none))))))else(some (xg,DX,Ow.2)))))
def bA.f(k:Nat)(bJ:List Int)(gy:Int):Option ((List (bg))×Int×Int):=(some (([64,64,40,20,0]:List Int):List Int)).bind fun yH=>((av.f k bJ gy 5).bind fun nR=>(if 0≤nR.1 then(if nR.1<(yH.length:Int)then((av.f k bJ nR.2 7).bind fun vT=>(bA.l0 k vT.1 bJ vT.2 (([]:List (bg))) (rd yH nR.1)))else(none))else(none)))
theorem bA.mono_l:∀k,(∀y0 y1 y2 y3 y4,gV (bA.l0 k y0 y1 y2 y3 y4) (bA.l0 (k+1) y0 y1 y2 y3 y4))
 |0=>fun _ _ _ _ _ r h=>by simp[bA.l0]at h
 |k+1=>by
  have ng:=bA.mono_l k
  ·intro y0 y1 y2 y3 y4
   unfold bA.l0
   have m0:=@eF.mono
   have m1:=@dS.mono
   have m2:=@av.mono
   have m3:=@eT.mono
   exact zm
theorem bA.mono:∀a0 a1 k,gV (bA.f k a0 a1) (bA.f (k+1) a0 a1):=by
 intro a0 a1 k
 have ng:=bA.mono_l k
 unfold bA.f
 have m0:=@eF.mono
 have m1:=@dS.mono
 have m2:=@av.mono
 have m3:=@eT.mono
 exact zm
def bA.T12:Bool×List (List Nat×List Nat):=(true,[([],[]),([0],[0]),([],[]),([2],[2]),([],[]),([4,3],[4]),([],[]),([6,5],[6]),([3,5,7],[3,5,7]),([1,8,7],[1,8]),([0,1,2,3,4,5,6,7,8,9],[]),([10,9,9,0,1,2,3,4,5,6,7,8,9],[9,10])])
def bA.B12:List Nat:=[0,1,0,4,0,28,0,124,252,511,1023,2047]
theorem bA.tab12:jm .any (opsOf Tryz.f48 12)=bA.T12:=by kernel_rfl
theorem bA.bits12:fQ bA.T12.2 bA.B12=true:=by kernel_rfl
theorem bA.calls(k:Nat)(g:Nat)(bJ:List Int)(gy:Int)(r1:List (bg))(r2:Int)(r3:Int)(w0 w:World)(hI:aK w0 w g bJ gy)(hB:Below w0.heap.size w0 w)(h:bA.f k bJ gy=some (r1,r2,r3)):
 Calls Tryz.prog 48 #[.pointer (some ⟨g,0,none⟩)] w fun e w'=>∃vk:Value,e= .returned (.agg #[vk,.int .i64 r2])∧Kd.R iF 89 w' w.heap.size (fun _=>True) vk r1∧aK w0 w' g bJ r3∧Below w0.heap.size w0 w'∧ay w w' g none:=by
 have zB:=Tryz.underlying25
 have rZ:=Tryz.underlying89
 have HI0:=ah.mk hI
 have HK:=ah.mk (ay.refl w g none)
 have HL:=ah.mk hB.size
 clear hI
 have HW0:=ah.mk hB.size
 have HB:=ah.mk hB
 clear hB
 have H:((some (([64,64,40,20,0]:List Int):List Int)).bind fun yH=>((av.f k bJ gy 5).bind fun nR=>(if 0≤nR.1 then(if nR.1<(yH.length:Int)then((av.f k bJ nR.2 7).bind fun vT=>(bA.l0 k vT.1 bJ vT.2 (([]:List (bg))) (rd yH nR.1)))else(none))else(none))))=some (r1,r2,r3):=h
 clear h
 obtain⟨a1r,Oy⟩:∃y_:List (bg),y_=(([]:List (bg))):=⟨_,rfl⟩
 replace H:((some (([64,64,40,20,0]:List Int):List Int)).bind fun yH=>((av.f k bJ gy 5).bind fun nR=>(if 0≤nR.1 then(if nR.1<(yH.length:Int)then((av.f k bJ nR.2 7).bind fun vT=>(bA.l0 k vT.1 bJ vT.2 a1r (rd yH nR.1)))else(none))else(none))))=some (r1,r2,r3):=by first|(rw[Oy];with_reducible exact H)|(have fF:=(Option.bind_some _ _).symm.trans H;rw[Oy];with_reducible exact fF)|(have fF:=(Option.bind_some _ _).symm.trans H;with_reducible exact fF)|with_reducible exact H|(rw[Oy];exact H)|exact H
 have acO:=ah.mk Oy
 clear Oy
 obtain⟨yH,Oz⟩:∃y_:List Int,y_=(([64,64,40,20,0]:List Int)):=⟨_,rfl⟩
 replace H:((av.f k bJ gy 5).bind fun nR=>(if 0≤nR.1 then(if nR.1<(yH.length:Int)then((av.f k bJ nR.2 7).bind fun vT=>(bA.l0 k vT.1 bJ vT.2 a1r (rd yH nR.1)))else(none))else(none)))=some (r1,r2,r3):=by first|(rw[Oz];with_reducible exact H)|(have fF:=(Option.bind_some _ _).symm.trans H;rw[Oz];with_reducible exact fF)|(have fF:=(Option.bind_some _ _).symm.trans H;with_reducible exact fF)|with_reducible exact H|(rw[Oz];exact H)|exact H
 have acP:=ah.mk Oz
 clear Oz
 obtain⟨⟨QZ,XG⟩,A2,H⟩:=ob H
 (try dsimp only at H)
 replace H:=sp H
 rcases H with⟨c3,H⟩|⟨c3,H⟩
 ·skip
  have c3b0:=decide_eq_true c3
  clear c3
  by_cases c4:QZ<(yH.length:Int)
  ·rw[if_pos c4]at H
   have c4b0:=decide_eq_true c4
   clear c4
   obtain⟨⟨aok,aol⟩,A5,H⟩:=ob H
   (try dsimp only at H)
   have H':=ah.mk H
   clear H
   go_enter Tryz.func48,Tryz.ntmps48
   go_wp2_with (first|((with_reducible refine gd 2 rfl ?_);refine bx (N:=2) (cs:=#[.slice none 0 0,.int .i64 0]) (t:=25) ?_;intro nI hg w6 hbox hb;replace HB:=ah.mk (ai (gL HB) hb);have fU:=ah.mk (hbox);have aMH:=ah.mk ((by rw[hg];exact(gH (w:=w) (g:=g) (row:=none) (zh HK)):w.heap.size≤nI));have aMI:=ah.mk ((Nat.le_trans HW0.out (by rw[hg];exact(gH (w:=w) (g:=g) (row:=none) (zh HK)):w.heap.size≤nI):w0.heap.size≤nI));replace HK:=ah.mk (ay.trans (zh HK) (ay.of_below hb g none) (.inl rfl));have Kj:=ah.mk ((by rw[hg];exact Nat.ne_of_lt (aK.lt (show aK w0 _ g bJ gy from eD HI0)):g≠nI));have mJ:=ah.mk ((by rw[hg];exact Nat.ne_of_gt (aK.lt (show aK w0 _ g bJ gy from eD HI0)):nI≠g));replace HI0:=ah.mk (aK.below (eD HI0) hb);clear hb hbox hg)|((with_reducible refine gd 6 rfl ?_);refine Kd.R_lit iF _ 89 ?hg (N:=6) ?hd (xs:=([]:List (bg))) (inner:=[]) (ok:=fun _=>True) (okp:=fun _=>True) ?hr ?hp (fun _ hk=>hk) trivial (Below.refl _ _) (Nat.le_refl _) (by simp) ?_;(case hd=>rfl);(case hg=>rfl);(case hr=>first|(go_simp;done)|(go_simp;rfl));(case hp=>exact(dm.none _ _));intro aR5 w7 ho8 hb nE fM;clear nE fM;(first|rw[←acO.out]at ho8|(simp only[Int.reduceToNat]at ho8;rw[←acO.out]at ho8));have xS:=ah.mk (Kd.R_lower ho8 (gH (w:=w) (g:=g) (row:=none) (zh HK)));replace HI0:=ah.mk (aK.below (eD HI0) hb);replace fU:=kb fU hb;replace HK:=ah.mk (ay.trans (zh HK) (ay.of_below hb g none) (.inl rfl));replace HB:=ah.mk (ai (gL HB) hb);clear hb ho8)|((with_reducible refine gd 7 rfl ?_);refine Kd.R_lit (Kd.int .i64) _ 3 ?hg (N:=7) ?hd (xs:=([64,64,40,20,0]:List Int)) (inner:=[.int .i64 64,.int .i64 64,.int .i64 40,.int .i64 20,.int .i64 0]) (ok:=fun _=>True) (okp:=fun _=>True) ?hr ?hp (fun _ hk=>hk) trivial (Below.refl _ _) (Nat.le_refl _) (by simp) ?_;(case hd=>rfl);(case hg=>rfl);(case hr=>first|(go_simp;done)|(go_simp;rfl));(case hp=>exact(dm.one (show Kd.M (Kd.int .i64) _ _ _ 64 [.int .i64 64]from rfl) (dm.one (show Kd.M (Kd.int .i64) _ _ _ 64 [.int .i64 64]from rfl) (dm.one (show Kd.M (Kd.int .i64) _ _ _ 40 [.int .i64 40]from rfl) (dm.one (show Kd.M (Kd.int .i64) _ _ _ 20 [.int .i64 20]from rfl) (dm.one (show Kd.M (Kd.int .i64) _ _ _ 0 [.int .i64 0]from rfl) (dm.none _ _)))))));intro aR6 w9 a1s hb nE fM;clear nE fM;(first|rw[←acP.out]at a1s|(simp only[Int.reduceToNat]at a1s;rw[←acP.out]at a1s));replace xS:=ah.mk (Kd.R_below (zr xS) hb);have CJ:=ah.mk (Kd.R_lower a1s (gH (w:=w) (g:=g) (row:=none) (zh HK)));replace HI0:=ah.mk (aK.below (eD HI0) hb);replace fU:=kb fU hb;replace HK:=ah.mk (ay.trans (zh HK) (ay.of_below hb g none) (.inl rfl));replace HB:=ah.mk (ai (gL HB) hb);clear hb a1s)|((with_reducible refine gq 22 rfl ?_);refine gl (some 9) Tryz.func22 #[.pointer (some ⟨g,0,none⟩),.int .i64 5] ?_;(with_reducible refine(av.calls k g bJ gy 5 QZ XG w0 _ ?aN ?aQ A2.out).mono ?_);(case aN=>exact eD HI0);(case aQ=>exact gL HB);rintro e w11 ⟨rfl,hi,hb,hk⟩;refine⟨_,rfl,?_⟩;replace fU:=ah.mk (ay.blk hk (g':=nI) (o:=.cells #[.slice none 0 0,.int .i64 0] 25 (0,0)) (zk fU) mJ.out (by simp));replace xS:=ah.mk (Kd.R_mono (Kd.R_keep (aK.apart (show aK w0 _ g bJ gy from eD HI0) (zr xS) (by decide)) hk (fun _ h=>h.2)) (fun _ h=>h.1));replace CJ:=ah.mk (Kd.R_mono (Kd.R_keep (aK.apart (show aK w0 _ g bJ gy from eD HI0) (zr CJ) (by decide)) hk (fun _ h=>h.2)) (fun _ h=>h.1));replace HK:=ah.mk (ay.trans (zh HK) hk (.inl rfl));replace HB:=ah.mk (hb);replace HI0:=ah.mk (hi);(try clear hb);(try clear hk);(try clear hi);obtain⟨aR7,aR8,aCW⟩:=Kd.R_slice CJ.out;subst aCW;have a9b:0≤(QZ:Int):=of_decide_eq_true za;have a9c:QZ<(yH.length:Int):=of_decide_eq_true za;obtain⟨aMJ,aCX,a9d⟩:=Kd.at_int (Kd.R_reads' CJ.out).2.2 QZ a9b a9c;cases aCX;replace a9b:=eq_true a9b;replace a9c:=eq_true a9c;obtain⟨a9e,a9f,ag2⟩:=Kd.R_slice xS.out;subst ag2)|((with_reducible refine gd 3 rfl ?_);refine bx (N:=3) (cs:=#[.slice none 0 0,.int .i64 0]) (t:=25) ?_;intro nS hg D5 hbox hb;replace xS:=ah.mk (Kd.R_below (zr xS) hb);replace CJ:=ah.mk (Kd.R_below (zr CJ) hb);replace HB:=ah.mk (ai (gL HB) hb);have fq:=ah.mk (hbox);have aMK:=ah.mk ((by rw[hg];exact(gH (w:=w) (g:=g) (row:=none) (zh HK)):w.heap.size≤nS));have aML:=ah.mk ((Nat.le_trans HW0.out (by rw[hg];exact(gH (w:=w) (g:=g) (row:=none) (zh HK)):w.heap.size≤nS):w0.heap.size≤nS));replace HK:=ah.mk (ay.trans (zh HK) (ay.of_below hb g none) (.inl rfl));obtain⟨qx,qy⟩:=nb fU hg;replace fU:=kb fU hb;have Ap:=ah.mk ((by rw[hg];exact Nat.ne_of_lt (aK.lt (show aK w0 _ g bJ XG from eD HI0)):g≠nS));have lH:=ah.mk ((by rw[hg];exact Nat.ne_of_gt (aK.lt (show aK w0 _ g bJ XG from eD HI0)):nS≠g));replace HI0:=ah.mk (aK.below (eD HI0) hb);clear hb hbox hg;have ano:=qy.out;have anp:=qx.out;have a0W:=lH.out;have a0X:=Ap.out;obtain⟨wG,wH,wI,wJ⟩:=c2 fq)|((with_reducible refine gq 22 rfl ?_);refine gl (some 14) Tryz.func22 #[.pointer (some ⟨g,0,none⟩),.int .i64 7] ?_;(with_reducible refine(av.calls k g bJ XG 7 aok aol w0 _ ?aN ?aQ A5.out).mono ?_);(case aN=>exact eD HI0);(case aQ=>exact gL HB);rintro e UG ⟨rfl,hi,hb,hk⟩;refine⟨_,rfl,?_⟩;replace fU:=ah.mk (ay.blk hk (g':=nI) (o:=.cells #[.slice none 0 0,.int .i64 0] 25 (0,0)) (zp fU) mJ.out (by simp));replace xS:=ah.mk (Kd.R_mono (Kd.R_keep (aK.apart (show aK w0 _ g bJ XG from eD HI0) (((Kd.R_mono (qb (Kd.R_types xS.out fq.out (by decide))) (fun _ h_=>h_.1)))) (by decide)) hk (fun _ h=>h.2)) (fun _ h=>h.1));replace CJ:=ah.mk (Kd.R_mono (Kd.R_keep (aK.apart (show aK w0 _ g bJ XG from eD HI0) (((Kd.R_mono (qb (Kd.R_types CJ.out fq.out (by decide))) (fun _ h_=>h_.1)))) (by decide)) hk (fun _ h=>h.2)) (fun _ h=>h.1));replace fq:=ah.mk (ay.blk hk (g':=nS) (o:=.cells #[.slice a9e a1r.length a9f,.int .i64 (rd yH QZ)] 25 (0,0)) (zp fq) lH.out (by simp));replace HK:=ah.mk (ay.trans (zh HK) hk (.inl rfl));replace HB:=ah.mk (hb);replace HI0:=ah.mk (hi);(try clear hb);(try clear hk);(try clear hi)))
   go_loopg [4] k (fun kq v4 w'=>∃(eu:Int)(iB:Int)(jw:List (bg))(gP:Int)(ko:Value),v4= .int .i64 eu∧ah (bA.l0 kq eu bJ iB jw gP=some (r1,r2,r3))∧ah (kq≤k)∧ah (Kd.R iF 89 w' w.heap.size (fun _=>True) ko jw)∧ah (w'.heap[nI]?=some (.cells #[(.slice none 0 0),.int .i64 0] 25 (0,0)))∧ah (w'.heap[nS]?=some (.cells #[ko,.int .i64 gP] 25 (0,0)))∧ah (aK w0 w' g bJ iB)∧ah (ay w w' g none)∧ah (Below w0.heap.size w0 w'))
   case atStart=>exact⟨(aok),(aol),(a1r),(rd yH QZ),(.slice a9e a1r.length a9f),zs,H',⟨Nat.le_refl _⟩,⟨by exact zr xS⟩,⟨by exact zk fU⟩,⟨by exact zk fq⟩,⟨eD HI0⟩,⟨zh HK⟩,⟨gL HB⟩⟩
   case round=>
    clear H'
    try clear c1
    try clear c2
    try clear p2
    try clear c3
    try clear c3b0
    try clear c4
    try clear c4b0
    try clear p8
    try clear q8
    try clear hx8
    try clear c15
    try clear c16
    try clear wG
    try clear wH
    try clear wI
    try clear wJ
    try clear a9d
    try clear a9b
    try clear a9c
    obtain⟨eu,iB,jw,gP,ko,rfl,HA,jc,HO_847000,fU,fq,HI0,HK,HB⟩:=hrel
    cases gk with
    |zero=>exact absurd HA.out (by simp[bA.l0])
    |succ k1=>
     have H:=HA.out
     clear HA
     simp only[bA.l0]at H
     by_cases c19:eu>0
     ·rw[if_pos c19]at H
      have c19b0:=decide_eq_true c19
      clear c19
      obtain⟨⟨R3,R4,R5,XH⟩,A20,H⟩:=ob H
      (try dsimp only at H)
      obtain⟨a9a,A21,H⟩:=ob H
      (try dsimp only at H)
      have a1a:=ah.mk H
      clear H
      go_upto_if 22 with(first|((with_reducible refine gq 72 rfl ?_);refine gl (some 20) Tryz.func72 #[.pointer (some ⟨g,0,none⟩)] ?_;(with_reducible refine(eT.calls k1 g bJ iB R3 R4 R5 XH w0 _ ?aN ?aQ A20.out).mono ?_);(case aN=>exact eD HI0);(case aQ=>exact gL HB);rintro e w23 ⟨rfl,hi,hb,hk⟩;refine⟨_,rfl,?_⟩;replace HO_847000:=ah.mk (Kd.R_mono (Kd.R_keep (aK.apart (show aK w0 _ g bJ iB from eD HI0) (zr HO_847000) (by decide)) hk (fun _ h=>h.2)) (fun _ h=>h.1));replace fU:=ah.mk (ay.blk hk (g':=nI) (o:=.cells #[.slice none 0 0,.int .i64 0] 25 (0,0)) (zk fU) mJ.out (by simp));replace fq:=ah.mk (ay.blk hk (g':=nS) (o:=.cells #[ko,.int .i64 gP] 25 (0,0)) (zk fq) lH.out (by simp));replace HK:=ah.mk (ay.trans (zh HK) hk (.inl rfl));replace HB:=ah.mk (hb);replace HI0:=ah.mk (hi);(try clear hb);(try clear hk);(try clear hi))|((with_reducible refine gd 5 rfl ?_);refine bx (N:=5) (cs:=#[.string (⟨#[]⟩:ByteArray),.string (⟨#[]⟩:ByteArray),.bool false]) (t:=89) ?_;intro vU hg w24 hbox hb;replace HO_847000:=ah.mk (Kd.R_below (Kd.R_elderB (zr HO_847000) vU (Nat.le_of_eq hg.symm)) hb);replace HB:=ah.mk (ai (gL HB) hb);have F5:=ah.mk (hbox);have aMM:=ah.mk ((by rw[hg];exact(gH (w:=w) (g:=g) (row:=none) (zh HK)):w.heap.size≤vU));have aMN:=ah.mk ((Nat.le_trans HW0.out (by rw[hg];exact(gH (w:=w) (g:=g) (row:=none) (zh HK)):w.heap.size≤vU):w0.heap.size≤vU));replace HK:=ah.mk (ay.trans (zh HK) (ay.of_below hb g none) (.inl rfl));obtain⟨Ht,Hu⟩:=nb fU hg;replace fU:=kb fU hb;obtain⟨Hw,Hy⟩:=nb fq hg;replace fq:=kb fq hb;have VK:=ah.mk ((by rw[hg];exact Nat.ne_of_lt (aK.lt (show aK w0 _ g bJ XH from eD HI0)):g≠vU));have VL:=ah.mk ((by rw[hg];exact Nat.ne_of_gt (aK.lt (show aK w0 _ g bJ XH from eD HI0)):vU≠g));replace HI0:=ah.mk (aK.below (eD HI0) hb);clear hb hbox hg;have ac8:=Hu.out;have ac9:=Ht.out;have aMO:=Hy.out;have aMP:=Hw.out;have aoc:=VL.out;have aod:=VK.out;obtain⟨axR,axS,axT,axU,axV,axW⟩:=c3 F5)|((with_reducible refine gq 56 rfl ?_);refine gl (some 22) Tryz.func56 #[.agg #[.string R3,.string R4,.bool R5]] ?_;(with_reducible refine(eF.calls k1 R3 R4 R5 a9a _ A21.out).mono ?_);rintro e w29 ⟨rfl,hb⟩;refine⟨_,rfl,?_⟩;replace HO_847000:=ah.mk (Kd.R_below (((Kd.R_mono (qb (Kd.R_mono HO_847000.out (fun k_ hk=>(⟨hk,hk.2⟩:_∧k_≠vU)))) (fun _ h_=>h_.1)))) hb);replace fU:=ah.mk (dX (g:=nI) (o:=.cells #[.slice none 0 0,.int .i64 0] 25 (0,0)) (zp fU) hb);replace fq:=ah.mk (dX (g:=nS) (o:=.cells #[ko,.int .i64 gP] 25 (0,0)) (zp fq) hb);replace HI0:=ah.mk (aK.below (show aK w0 (((w24.setCell ⟨vU,0,none⟩ (.string R3)).setCell ⟨vU,1,none⟩ (.string R4)).setCell ⟨vU,2,none⟩ (.bool R5)) g bJ XH from eD HI0) hb);replace F5:=ah.mk (dX (g:=vU) (o:=.cells #[.string R3,.string R4,.bool R5] 89 (0,0)) (zp F5) hb);replace HK:=ah.mk (ay.trans (zh HK) (ay.of_below hb g none) (.inl rfl));replace HB:=ah.mk (ai (gL HB) hb);(try clear hb)))
      (try simp only[Act.put,s1,s2,s3])
      have H:=a1a.out
      clear a1a
      by_cases QE:a9a=true
      ·subst QE
       rw[if_pos rfl]at H
       obtain⟨⟨ag3,aom⟩,A31,H⟩:=ob H
       (try dsimp only at H)
       have H':=ah.mk H
       clear H
       have abW:=qy.out
       have abX:=qx.out
       have aMQ:=Hw.out
       have aMR:=Hy.out
       have acD:=lH.out
       have acE:=Ap.out
       obtain⟨Jd,Je,Jf,Jg⟩:=c2 fq
       have a1m:=Hu.out
       have a1n:=Ht.out
       have a0S:=VL.out
       have a0T:=VK.out
       obtain⟨DI,DJ,DK,DL,DN,DT⟩:=c3 F5
       obtain⟨ag4,ag5,a9g⟩:=Kd.R_slice HO_847000.out
       subst a9g
       go_wp2_with (first|((with_reducible refine gq 73 rfl ?_);refine gl (some 25) Tryz.func73 #[.agg #[.slice ag4 jw.length ag5,.int .i64 gP],.agg #[.string R3,.string R4,.bool R5]] ?_;(with_reducible refine(dS.calls k1 _ _ jw gP R3 R4 R5 ag3 aom _ ?aN ?aQ A31.out).mono ?_);(case aN=>exact zc (Kd.R_reads' HO_847000.out).2.2);(case aQ=>exact(Kd.R_reads' HO_847000.out).2.1);rintro e w40 ⟨aRa,rfl,ho0,hb⟩;refine⟨_,rfl,?_⟩;have acQ:=ah.mk (Kd.R_lower (Kd.R_newB (Kd.R_new' ho0 (Kd.R_lt (zr HO_847000))) (zk F5)) (gH (w:=w) (g:=g) (row:=none) (zh HK)));replace HO_847000:=ah.mk (Kd.R_elder' (zr HO_847000) (Kd.R_base ho0) hb);replace fU:=kb fU hb;replace fq:=kb fq hb;replace HI0:=ah.mk (aK.below (eD HI0) hb);replace F5:=kb F5 hb;replace HK:=ah.mk (ay.trans (zh HK) (ay.of_below hb g none) (.inl rfl));replace HB:=ah.mk (ai (gL HB) hb);(try clear hb);(try clear ho0);obtain⟨aCY,aCZ,aD0⟩:=Kd.R_slice acQ.out;subst aD0;obtain⟨a7G,a7H,a7I,a7J⟩:=c2 fq))
       go_roundg k1
       case measure=>have:=jc.out;omega
       case rel=>exact⟨(wrap64 (eu-1)),(XH),(ag3),(aom),(.slice aCY ag3.length aCZ),zs,H',⟨by have:=jc.out;omega⟩,⟨(Kd.R_mono (qb (Kd.R_types acQ.out fq.out (by decide))) (fun _ hk=>trivial))⟩,⟨zp fU⟩,⟨zp fq⟩,⟨eD HI0⟩,⟨zh HK⟩,⟨gL HB⟩⟩
      ·replace QE:=Bool.eq_false_iff.mpr QE
       subst QE
       rw[if_neg (show ¬(false=true) by decide)]at H
       have H':=ah.mk H
       clear H
       go_wp2
       go_roundg k1
       case measure=>have:=jc.out;omega
       case rel=>exact⟨(wrap64 (eu-1)),(XH),(jw),(gP),(ko),zs,H',⟨by have:=jc.out;omega⟩,⟨zq (Kd.R_mono HO_847000.out (fun _ hk=>trivial))⟩,⟨by exact zk fU⟩,⟨by exact zk fq⟩,⟨eD HI0⟩,⟨zh HK⟩,⟨gL HB⟩⟩
     ·rw[if_neg c19]at H
      have c19b0:=decide_eq_false c19
      clear c19
      obtain⟨⟨BQ,Kk⟩,A43,H⟩:=ob H
      (try dsimp only at H)
      by_cases c44:BQ=0
      ·rw[if_pos c44]at H
       have c44b0:(BQ==0)=true:=beq_iff_eq.mpr c44
       have c44b1:(BQ != 0)=false:=bne_eq_false_iff_eq.mpr c44
       clear c44
       obtain⟨Ox,OA⟩:∃y_:List Int,y_=(([(-1),65,3]:List Int)):=⟨_,rfl⟩
       replace H:((av.f k1 bJ Kk 3).bind fun Ao=>(if 0≤Ao.1 then(if Ao.1<(Ox.length:Int)then(some (jw,rd Ox Ao.1,Ao.2))else(none))else(none)))=some (r1,r2,r3):=by first|(rw[OA];with_reducible exact H)|(have fF:=(Option.bind_some _ _).symm.trans H;rw[OA];with_reducible exact fF)|(have fF:=(Option.bind_some _ _).symm.trans H;with_reducible exact fF)|with_reducible exact H|(rw[OA];exact H)|exact H
       have acR:=ah.mk OA
       clear OA
       obtain⟨⟨R6,aD2⟩,A45,H⟩:=ob H
       (try dsimp only at H)
       by_cases c46:0≤R6
       ·rw[if_pos c46]at H
        have c46b0:=decide_eq_true c46
        clear c46
        by_cases c47:R6<(Ox.length:Int)
        ·rw[if_pos c47]at H
         have c47b0:=decide_eq_true c47
         clear c47
         simp only[Option.some.injEq,Prod.mk.injEq]at H
         obtain⟨rfl,rfl,rfl⟩:=H
         go_wp2_with (first|((with_reducible refine gq 22 rfl ?_);refine gl (some 27) Tryz.func22 #[.pointer (some ⟨g,0,none⟩),.int .i64 24] ?_;(with_reducible refine(av.calls k1 g bJ iB 24 BQ Kk w0 _ ?aN ?aQ A43.out).mono ?_);(case aN=>exact eD HI0);(case aQ=>exact gL HB);rintro e w48 ⟨rfl,hi,hb,hk⟩;refine⟨_,rfl,?_⟩;replace HO_847000:=ah.mk (Kd.R_mono (Kd.R_keep (aK.apart (show aK w0 _ g bJ iB from eD HI0) (zr HO_847000) (by decide)) hk (fun _ h=>h.2)) (fun _ h=>h.1));replace fU:=ah.mk (ay.blk hk (g':=nI) (o:=.cells #[.slice none 0 0,.int .i64 0] 25 (0,0)) (zk fU) mJ.out (by simp));replace fq:=ah.mk (ay.blk hk (g':=nS) (o:=.cells #[ko,.int .i64 gP] 25 (0,0)) (zk fq) lH.out (by simp));replace HK:=ah.mk (ay.trans (zh HK) hk (.inl rfl));replace HB:=ah.mk (hb);replace HI0:=ah.mk (hi);(try clear hb);(try clear hk);(try clear hi))|((with_reducible refine gd 30 rfl ?_);refine Kd.R_lit (Kd.int .i64) _ 3 ?hg (N:=30) ?hd (xs:=([(-1),65,3]:List Int)) (inner:=[.int .i64 (-1),.int .i64 65,.int .i64 3]) (ok:=fun _=>True) (okp:=fun _=>True) ?hr ?hp (fun _ hk=>hk) trivial (Below.refl _ _) (Nat.le_refl _) (by simp) ?_;(case hd=>rfl);(case hg=>rfl);(case hr=>first|(go_simp;done)|(go_simp;rfl));(case hp=>exact(dm.one (show Kd.M (Kd.int .i64) _ _ _ (-1) [.int .i64 (-1)]from rfl) (dm.one (show Kd.M (Kd.int .i64) _ _ _ 65 [.int .i64 65]from rfl) (dm.one (show Kd.M (Kd.int .i64) _ _ _ 3 [.int .i64 3]from rfl) (dm.none _ _)))));intro aRc w49 a1t hb nE fM;clear nE fM;(first|rw[←acR.out]at a1t|(simp only[Int.reduceToNat]at a1t;rw[←acR.out]at a1t));replace HO_847000:=ah.mk (Kd.R_below (zr HO_847000) hb);have VN:=ah.mk (Kd.R_lower a1t (gH (w:=w) (g:=g) (row:=none) (zh HK)));replace fU:=kb fU hb;replace fq:=kb fq hb;replace HI0:=ah.mk (aK.below (eD HI0) hb);replace HK:=ah.mk (ay.trans (zh HK) (ay.of_below hb g none) (.inl rfl));replace HB:=ah.mk (ai (gL HB) hb);clear hb a1t)|((with_reducible refine gq 22 rfl ?_);refine gl (some 32) Tryz.func22 #[.pointer (some ⟨g,0,none⟩),.int .i64 3] ?_;(with_reducible refine(av.calls k1 g bJ Kk 3 R6 aD2 w0 _ ?aN ?aQ A45.out).mono ?_);(case aN=>exact eD HI0);(case aQ=>exact gL HB);rintro e w51 ⟨rfl,hi,hb,hk⟩;refine⟨_,rfl,?_⟩;replace HO_847000:=ah.mk (Kd.R_mono (Kd.R_keep (aK.apart (show aK w0 _ g bJ Kk from eD HI0) (zr HO_847000) (by decide)) hk (fun _ h=>h.2)) (fun _ h=>h.1));replace fU:=ah.mk (ay.blk hk (g':=nI) (o:=.cells #[.slice none 0 0,.int .i64 0] 25 (0,0)) (zk fU) mJ.out (by simp));replace fq:=ah.mk (ay.blk hk (g':=nS) (o:=.cells #[ko,.int .i64 gP] 25 (0,0)) (zk fq) lH.out (by simp));replace VN:=ah.mk (Kd.R_mono (Kd.R_keep (aK.apart (show aK w0 _ g bJ Kk from eD HI0) (zr VN) (by decide)) hk (fun _ h=>h.2)) (fun _ h=>h.1));replace HK:=ah.mk (ay.trans (zh HK) hk (.inl rfl));replace HB:=ah.mk (hb);replace HI0:=ah.mk (hi);(try clear hb);(try clear hk);(try clear hi);obtain⟨aRd,aRe,aD3⟩:=Kd.R_slice VN.out;subst aD3;have ag6:0≤(R6:Int):=of_decide_eq_true za;have ag7:R6<(Ox.length:Int):=of_decide_eq_true za;obtain⟨aMS,aD4,axX⟩:=Kd.at_int (Kd.R_reads' VN.out).2.2 R6 ag6 ag7;cases aD4;replace ag6:=eq_true ag6;replace ag7:=eq_true ag7;have aMT:=qy.out;have aMU:=qx.out;have aMV:=lH.out;have aMW:=Ap.out;obtain⟨axY,axZ,ay0,ay1⟩:=c2 fq;obtain⟨aD5,aD6,aD7⟩:=Kd.R_slice HO_847000.out;subst aD7;have acF:=mJ.out;have acG:=Kj.out;obtain⟨Vy,Vz,VA,VB⟩:=c2 fU))
         refine bodyPost_ret (results_cell_row rfl _ _ nI 25 #[.slice aD5 jw.length aD6,.int .i64 (rd Ox R6)] (0,0) _ rfl (zp fU) Tryz.underlying25 rfl (by kernel_rfl)) rfl ?_
         exact⟨_,ze,(Kd.R_mono (qb (Kd.R_types (Kd.R_types HO_847000.out fq.out (by decide)) fU.out (by decide))) (fun _ hk=>trivial)),eD HI0,gL HB,zh HK⟩
        ·rw[if_neg c47]at H
         exact absurd H (by simp)
       ·rw[if_neg c46]at H
        exact absurd H (by simp)
      ·rw[if_neg c44]at H
       have c44b0:(BQ==0)=false:=beq_eq_false_iff_ne.mpr c44
       have c44b1:(BQ != 0)=true:=bne_iff_ne.mpr c44
       by_cases c59:BQ=1
       ·rw[if_pos c59]at H
        have c59b0:(BQ==1)=true:=beq_iff_eq.mpr c59
        have c59b1:(BQ != 1)=false:=bne_eq_false_iff_eq.mpr c59
        clear c59
        obtain⟨⟨R7,R8,R9,ag8⟩,A60,H⟩:=ob H
        (try dsimp only at H)
        obtain⟨⟨Ra,Rb,Rc,ag9⟩,A61,H⟩:=ob H
        (try dsimp only at H)
        obtain⟨⟨Rf,Rh,Ri,aga⟩,A62,H⟩:=ob H
        (try dsimp only at H)
        obtain⟨Ki,OB⟩:∃y_:List (bg),y_=(([(⟨R7,R8,R9⟩:bg),(⟨Ra,Rb,Rc⟩:bg),(⟨Rf,Rh,Ri⟩:bg)]:List (bg))):=⟨_,rfl⟩
        replace H:(if jw.length+Ki.length<3518437208883 then(some ((jw++Ki),gP,aga))else(none))=some (r1,r2,r3):=by first|(rw[OB];with_reducible exact H)|(have fF:=(Option.bind_some _ _).symm.trans H;rw[OB];with_reducible exact fF)|(have fF:=(Option.bind_some _ _).symm.trans H;with_reducible exact fF)|with_reducible exact H|(rw[OB];exact H)|exact H
        have acS:=ah.mk OB
        clear OB
        by_cases c63:jw.length+Ki.length<3518437208883
        ·rw[if_pos c63]at H
         have aon:=ah.mk c63
         clear c63
         obtain⟨aoo,OC⟩:∃y_:List (bg),y_=(jw++Ki):=⟨_,rfl⟩
         replace H:(some (aoo,gP,aga))=some (r1,r2,r3):=by first|(rw[OC];with_reducible exact H)|(have fF:=(Option.bind_some _ _).symm.trans H;rw[OC];with_reducible exact fF)|(have fF:=(Option.bind_some _ _).symm.trans H;with_reducible exact fF)|with_reducible exact H|(rw[OC];exact H)|exact H
         have aop:=ah.mk OC
         clear OC
         simp only[Option.some.injEq,Prod.mk.injEq]at H
         obtain⟨rfl,rfl,rfl⟩:=H
         try go_wp2_with (first|((with_reducible refine gq 22 rfl ?_);refine gl (some 27) Tryz.func22 #[.pointer (some ⟨g,0,none⟩),.int .i64 24] ?_;(with_reducible refine(av.calls k1 g bJ iB 24 BQ Kk w0 _ ?aN ?aQ A43.out).mono ?_);(case aN=>exact eD HI0);(case aQ=>exact gL HB);rintro e w64 ⟨rfl,hi,hb,hk⟩;refine⟨_,rfl,?_⟩;replace HO_847000:=ah.mk (Kd.R_mono (Kd.R_keep (aK.apart (show aK w0 _ g bJ iB from eD HI0) (zr HO_847000) (by decide)) hk (fun _ h=>h.2)) (fun _ h=>h.1));replace fU:=ah.mk (ay.blk hk (g':=nI) (o:=.cells #[.slice none 0 0,.int .i64 0] 25 (0,0)) (zk fU) mJ.out (by simp));replace fq:=ah.mk (ay.blk hk (g':=nS) (o:=.cells #[ko,.int .i64 gP] 25 (0,0)) (zk fq) lH.out (by simp));replace HK:=ah.mk (ay.trans (zh HK) hk (.inl rfl));replace HB:=ah.mk (hb);replace HI0:=ah.mk (hi);(try clear hb);(try clear hk);(try clear hi)))
         replace HO_847000:=ah.mk (Kd.R_drew HO_847000.out)
         replace fU:=ah.mk (dn fU.out)
         replace fq:=ah.mk (dn fq.out)
         replace HI0:=ah.mk (aK.drew HI0.out)
         replace HK:=ah.mk (Gx HK.out)
         replace HB:=ah.mk (dG HB.out)
         refine tZ (n:=12) (S:=fun w'=>w'.cell? ⟨nS,0,none⟩=some (ko)∧w'.cell? ⟨nS,1,none⟩=some (.int .i64 gP)) (ds:=[11]) #[false,false,false,false,false,false,false,false,false,false,false,false] (by kernel_rfl) rfl rfl ⟨(au fq.out 0).trans rfl,(au fq.out 1).trans rfl⟩ (fun hHeld=>?_);refine bR bA.tab12 bA.bits12 (fun HT_ HW_=>?_)
         generalize w64.drew=w65 at HO_847000 fU fq HI0 HK HB hHeld ⊢
         refine pu 0 (some 38) (bm 12 1) rfl rfl ?_
         refine pu 2 (some 40) (bm 12 5) rfl rfl ?_
         refine pu 4 (some 42) (bm 12 21) rfl rfl ?_
         refine pu 6 (some 44) (bm 12 85) rfl rfl ?_
         refine tk 1 (some 39) (bm 12 87) rfl rfl hHeld ?_
         refine fV (i:=3) (N:=some 41) (bm 12 95) rfl rfl (bL HT_.out (by kernel_rfl)) (by decide) (fun K hK=>?_)
         refine gs Tryz.func72 #[.pointer (some ⟨g,0,none⟩)] ?_
         with_reducible refine(eT.calls k1 g bJ Kk R7 R8 R9 ag8 w0 _ ?aN ?aQ A60.out).mono ?_
         (case aN=>exact eD HI0)
         (case aQ=>exact gL HB)
         rintro e w66 ⟨rfl,hi,hb,hk⟩
         refine⟨_,rfl,?_⟩
         replace HO_847000:=ah.mk (Kd.R_mono (Kd.R_keep (aK.apart (show aK w0 _ g bJ Kk from eD HI0) (zr HO_847000) (by decide)) hk (fun _ h=>h.2)) (fun _ h=>h.1))
         replace fU:=ah.mk (ay.blk hk (g':=nI) (o:=.cells #[.slice none 0 0,.int .i64 0] 25 (0,0)) (zk fU) mJ.out (by simp))
         replace fq:=ah.mk (ay.blk hk (g':=nS) (o:=.cells #[ko,.int .i64 gP] 25 (0,0)) (zk fq) lH.out (by simp))
         replace HK:=ah.mk (ay.trans (zh HK) hk (.inl rfl))
         replace HB:=ah.mk (hb)
         replace HI0:=ah.mk (hi)
         (try clear hb)
         (try clear hk)
         (try clear hi)
         refine hK.out _ _ ⟨(au fq.out 0).trans rfl,(au fq.out 1).trans rfl⟩ (fun hHeld=>?_)
         clear hK K
         refine nm ?_
         refine fV (i:=5) (N:=some 43) (bm 12 127) rfl rfl (bL HT_.out (by kernel_rfl)) (by decide) (fun K hK=>?_)
         refine gs Tryz.func72 #[.pointer (some ⟨g,0,none⟩)] ?_
         with_reducible refine(eT.calls k1 g bJ ag8 Ra Rb Rc ag9 w0 _ ?aN ?aQ A61.out).mono ?_
         (case aN=>exact eD HI0)
         (case aQ=>exact gL HB)
         rintro e w67 ⟨rfl,hi,hb,hk⟩
         refine⟨_,rfl,?_⟩
         replace HO_847000:=ah.mk (Kd.R_mono (Kd.R_keep (aK.apart (show aK w0 _ g bJ ag8 from eD HI0) (zr HO_847000) (by decide)) hk (fun _ h=>h.2)) (fun _ h=>h.1))
         replace fU:=ah.mk (ay.blk hk (g':=nI) (o:=.cells #[.slice none 0 0,.int .i64 0] 25 (0,0)) (zk fU) mJ.out (by simp))
         replace fq:=ah.mk (ay.blk hk (g':=nS) (o:=.cells #[ko,.int .i64 gP] 25 (0,0)) (zk fq) lH.out (by simp))
         replace HK:=ah.mk (ay.trans (zh HK) hk (.inl rfl))
         replace HB:=ah.mk (hb)
         replace HI0:=ah.mk (hi)
         (try clear hb)
         (try clear hk)
         (try clear hi)
         refine hK.out _ _ ⟨(au fq.out 0).trans rfl,(au fq.out 1).trans rfl⟩ (fun hHeld=>?_)
         clear hK K
         refine nm ?_
         refine fV (i:=7) (N:=some 45) (bm 12 255) rfl rfl (bL HT_.out (by kernel_rfl)) (by decide) (fun K hK=>?_)
         refine gs Tryz.func72 #[.pointer (some ⟨g,0,none⟩)] ?_
         with_reducible refine(eT.calls k1 g bJ ag9 Rf Rh Ri aga w0 _ ?aN ?aQ A62.out).mono ?_
         (case aN=>exact eD HI0)
         (case aQ=>exact gL HB)
         rintro e w68 ⟨rfl,hi,hb,hk⟩
         refine⟨_,rfl,?_⟩
         replace HO_847000:=ah.mk (Kd.R_mono (Kd.R_keep (aK.apart (show aK w0 _ g bJ ag9 from eD HI0) (zr HO_847000) (by decide)) hk (fun _ h=>h.2)) (fun _ h=>h.1))
         replace fU:=ah.mk (ay.blk hk (g':=nI) (o:=.cells #[.slice none 0 0,.int .i64 0] 25 (0,0)) (zk fU) mJ.out (by simp))
         replace fq:=ah.mk (ay.blk hk (g':=nS) (o:=.cells #[ko,.int .i64 gP] 25 (0,0)) (zk fq) lH.out (by simp))
         replace HK:=ah.mk (ay.trans (zh HK) hk (.inl rfl))
         replace HB:=ah.mk (hb)
         replace HI0:=ah.mk (hi)
         (try clear hb)
         (try clear hk)
         (try clear hi)
         refine hK.out _ _ ⟨(au fq.out 0).trans rfl,(au fq.out 1).trans rfl⟩ (fun hHeld=>?_)
         clear hK K
         refine nm ?_
         refine fV (i:=8) (N:=some 46) (bm 12 511) rfl rfl (bL HT_.out (by kernel_rfl)) (by decide) (fun K hK=>?_)
         refine Kd.R_lit_step iF _ 89 ?hg (N:=46) ?hd (xs:=([(⟨R7,R8,R9⟩:bg),(⟨Ra,Rb,Rc⟩:bg),(⟨Rf,Rh,Ri⟩:bg)]:List (bg))) (inner:=[.string R7,.string R8,.bool R9,.string Ra,.string Rb,.bool Rc,.string Rf,.string Rh,.bool Ri]) (ok:=fun _=>True) (okp:=fun _=>True) ?hr ?hp (fun _ hk=>hk) trivial (Below.refl _ _) (Nat.le_refl _) (by simp) ?_;(case hd=>rfl);(case hg=>rfl);(case hr=>first|(go_simp;done)|(go_simp;rfl));(case hp=>exact(dm.c3 (show Kd.M iF _ _ _ (⟨R7,R8,R9⟩:bg) [.string R7,.string R8,.bool R9]from(lD _ _ _ (⟨R7,R8,R9⟩:bg))) (dm.c3 (show Kd.M iF _ _ _ (⟨Ra,Rb,Rc⟩:bg) [.string Ra,.string Rb,.bool Rc]from(lD _ _ _ (⟨Ra,Rb,Rc⟩:bg))) (dm.c3 (show Kd.M iF _ _ _ (⟨Rf,Rh,Ri⟩:bg) [.string Rf,.string Rh,.bool Ri]from(lD _ _ _ (⟨Rf,Rh,Ri⟩:bg))) (dm.none _ _)))))
         intro aRh w69 XI hb nE fM
         clear nE fM
         (first|rw[←acS.out]at XI|(simp only[Int.reduceToNat]at XI;rw[←acS.out]at XI))
         have OD:=ah.mk (Kd.R_lower (Kd.R_new' XI (Kd.R_lt (zr HO_847000))) (gH (w:=w) (g:=g) (row:=none) (zh HK)))
         replace HO_847000:=ah.mk (Kd.R_elder' (zr HO_847000) (Kd.R_base XI) hb)
         replace fU:=kb fU hb
         replace fq:=kb fq hb
         replace HI0:=ah.mk (aK.below (eD HI0) hb)
         replace HK:=ah.mk (ay.trans (zh HK) (ay.of_below hb g none) (.inl rfl))
         replace HB:=ah.mk (ai (gL HB) hb)
         clear hb XI
         obtain⟨aD8,aD9,aoq⟩:=Kd.R_slice OD.out
         (first|subst aoq|(injection aoq with Cx Na Cy;have Nb:=Cx.symm;have Nc:=Cy.symm;clear Cx Na Cy;subst Nb;subst Nc))
         refine hK.out _ _ ⟨(au fq.out 0).trans rfl,(au fq.out 1).trans rfl⟩ (fun hHeld=>?_)
         clear hK K
         refine nm ?_
         refine fV (i:=9) (N:=some 47) (bm 12 1023) rfl rfl (bL HT_.out (by kernel_rfl)) (by decide) (fun K hK=>?_)
         refine Kd.R_append_rows_step iF w.heap.size (by rfl) (.tmp 39) (.tmp 46) 23 89 (.agg #[(.string ⟨#[]⟩),(.string ⟨#[]⟩),(.bool false)]) 40 rfl Tryz.underlying23 yh rfl (by decide) (by omega) ko jw Ki _ _ _ (fun k_=>some k_≠(.slice aD8 Ki.length aD9:Value).ownBlock) (fun _=>False) rfl rfl ?aO ?aR (fun _ _ h=>h) (fun _ h=>h.elim) ?aF (Below.refl _ _) ?aS ?aL ?_
         (case aR=>exact zc (Kd.R_reads' OD.out).2.2)
         (case aF=>exact(fun k_ hk=>Kd.fresh' (Kd.R_lt (zr OD)) k_ hk))
         (case aO=>exact(zq (Kd.R_mono HO_847000.out (fun _ hk=>hk.2))))
         (case aS=>exact(gH (w:=w) (g:=g) (row:=none) (zh HK)))
         (case aL=>have:=aon.out;omega)
         intro aRi w71 ho hb hg hat
         rw[←aop.out]at ho
         replace fU:=ah.mk (jI (zk fU) hg (Kd.R_ne HO_847000.out fU.out (by decide)))
         replace fq:=ah.mk (jI (zk fq) hg (Kd.R_ne HO_847000.out fq.out (by decide)))
         replace HI0:=ah.mk (aK.grown (eD HI0) hg (aK.own_ne HI0.out HO_847000.out (by decide)))
         replace OD:=ah.mk (Kd.R_after (ok:=(fun _=>True)) (zr OD) hg hat)
         replace HB:=ah.mk (IE (gL HB) HL.out hb)
         replace HK:=ah.mk (ay.trans (zh HK) (ay.of_grown hg g) (Kd.R_base2 HO_847000.out))
         have acT:=ah.mk (ho)
         clear HO_847000
         clear ho hb hg hat
         obtain⟨aDa,aDb,aor⟩:=Kd.R_slice acT.out
         (first|subst aor|(injection aor with Cx Na Cy;have Nb:=Cx.symm;have Nc:=Cy.symm;clear Cx Na Cy;subst Nb;subst Nc))
         refine hK.out _ _ ⟨(au fq.out 0).trans rfl,(au fq.out 1).trans rfl⟩ (fun hHeld=>?_)
         clear hK K
         refine nm ?_
         refine pu 10 (some 48) (bm 12 2047) rfl rfl ?_
         refine kJ (i:=11) (N:=none) #[true,true,true,true,true,true,true,true,true,true,true,true] rfl rfl (bL HT_.out (by kernel_rfl)) (by decide) (fun K hK=>?_)
         have aCF:w71.cell? ⟨nS,0,none⟩=some (ko):=(au fq.out 0).trans rfl
         have anM:=ak fq.out 0
         have a94:=qx.out
         have a95:=qy.out
         refine oW (w1:=?_) (by rfl) rfl ?_ ?_
         rotate_left
         ·go_simp
          rfl
         refine hK.out _ _ ?_
         clear hK K
         refine fw (dM HT_.out (by kernel_rfl)) ?_
         have aMX:=qy.out
         have aMY:=qx.out
         have aMZ:=lH.out
         have aN0:=Ap.out
         obtain⟨ay3,ay4,ay5,ay6⟩:=c2 fq
         have aN1:=mJ.out
         have aN2:=Kj.out
         obtain⟨ay7,ay8,ay9,aya⟩:=c2 fU
         try go_wp2
         refine bodyPost_ret (results_cell_row rfl _ _ nI 25 #[.slice aDa aoo.length aDb,.int .i64 gP] (0,0) _ rfl (zp fU) Tryz.underlying25 rfl (by kernel_rfl)) rfl ?_
         exact⟨_,ze,(Kd.R_mono (qb (Kd.R_types (Kd.R_types acT.out fq.out (by decide)) fU.out (by decide))) (fun _ hk=>trivial)),eD HI0,gL HB,zh HK⟩
        ·rw[if_neg c63]at H
         exact absurd H (by simp)
       ·rw[if_neg c59]at H
        have c59b0:(BQ==1)=false:=beq_eq_false_iff_ne.mpr c59
        have c59b1:(BQ != 1)=true:=bne_iff_ne.mpr c59
        simp only[Option.some.injEq,Prod.mk.injEq]at H
        obtain⟨rfl,rfl,rfl⟩:=H
        go_wp2_with (first|((with_reducible refine gq 22 rfl ?_);refine gl (some 27) Tryz.func22 #[.pointer (some ⟨g,0,none⟩),.int .i64 24] ?_;(with_reducible refine(av.calls k1 g bJ iB 24 BQ Kk w0 _ ?aN ?aQ A43.out).mono ?_);(case aN=>exact eD HI0);(case aQ=>exact gL HB);rintro e w80 ⟨rfl,hi,hb,hk⟩;refine⟨_,rfl,?_⟩;replace HO_847000:=ah.mk (Kd.R_mono (Kd.R_keep (aK.apart (show aK w0 _ g bJ iB from eD HI0) (zr HO_847000) (by decide)) hk (fun _ h=>h.2)) (fun _ h=>h.1));replace fU:=ah.mk (ay.blk hk (g':=nI) (o:=.cells #[.slice none 0 0,.int .i64 0] 25 (0,0)) (zk fU) mJ.out (by simp));replace fq:=ah.mk (ay.blk hk (g':=nS) (o:=.cells #[ko,.int .i64 gP] 25 (0,0)) (zk fq) lH.out (by simp));replace HK:=ah.mk (ay.trans (zh HK) hk (.inl rfl));replace HB:=ah.mk (hb);replace HI0:=ah.mk (hi);(try clear hb);(try clear hk);(try clear hi);have anO:=qy.out;have anP:=qx.out;have anQ:=lH.out;have anR:=Ap.out;obtain⟨a96,a97,a98,a99⟩:=c2 fq;obtain⟨aDc,aDd,aDe⟩:=Kd.R_slice HO_847000.out;subst aDe;have aN3:=mJ.out;have aN4:=Kj.out;obtain⟨ayb,ayc,ayd,aye⟩:=c2 fU))
        refine bodyPost_ret (results_cell_row rfl _ _ nI 25 #[.slice aDc jw.length aDd,.int .i64 gP] (0,0) _ rfl (zp fU) Tryz.underlying25 rfl (by kernel_rfl)) rfl ?_
        exact⟨_,ze,(Kd.R_mono (qb (Kd.R_types HO_847000.out fU.out (by decide))) (fun _ hk=>trivial)),eD HI0,gL HB,zh HK⟩
  ·rw[if_neg c4]at H
   exact absurd H (by simp)
 ·skip
  exact absurd H (by simp)
mutual
def aD.l0:Nat→ByteArray→List Int→Int→Option (ByteArray)
 |0,_,_,_=>none
 |k+1,x0,x3,x4=>if x4<(x0.size:Int)then(if 0≤x4 then((dw.f k (bt x0 x4)).bind fun F6=>(if F6<24 then((bB.f k F6 5).bind fun OE=>(if x3.length+OE.length<17592186044416 then(aD.l0 k x0 (x3++OE) (wrap64 (x4+1)))else(none)))else((bB.f k (wrap64 ((wrap64 (96+F6))-24)) 7).bind fun OG=>(if x3.length+OG.length<17592186044416 then(aD.l0 k x0 (x3++OG) (wrap64 (x4+1)))else(none)))))else(none))else(aD.l1 k x3)
def aD.l1:Nat→List Int→Option (ByteArray)
 |0,_=>none
 |k+1,x3=>if((x3.length:Int)%8)>0 then(if x3.length<17592186044416 then(aD.l1 k (x3++[1]))else(none))else(aD.l2 k x3 (⟨#[]⟩:ByteArray) 0)
def aD.l2:Nat→List Int→ByteArray→Int→Option (ByteArray)
 |0,_,_,_=>none
 |k+1,x3,x6,x7=>if x7<(x3.length:Int)then(if 0≤x7 then(if x7≤(wrap64 (x7+8))then(if(wrap64 (x7+8))≤(x3.length:Int)then((bS.f k ((x3.take ((wrap64 (x7+8)):Int).toNat).drop (x7:Int).toNat)).bind fun Rj=>((bP.f Rj).bind fun Gt=>(if x6.size+Gt.size≤9223372036854775807 then(aD.l2 k x3 (x6++Gt) (wrap64 (x7+8)))else(none))))else(none))else(none))else(none))else(some x6)
end
def aD.f(k:Nat)(a0:ByteArray):Option (ByteArray):=aD.l0 k a0 (([]:List Int)) 0
theorem aD.mono_l:∀k,(∀y0 y1 y2,gV (aD.l0 k y0 y1 y2) (aD.l0 (k+1) y0 y1 y2))∧(∀y0,gV (aD.l1 k y0) (aD.l1 (k+1) y0))∧(∀y0 y1 y2,gV (aD.l2 k y0 y1 y2) (aD.l2 (k+1) y0 y1 y2))
 |0=>⟨fun _ _ _ r h=>by simp[aD.l0]at h,fun _ r h=>by simp[aD.l1]at h,fun _ _ _ r h=>by simp[aD.l2]at h⟩
 |k+1=>by
  obtain⟨ng,ih1,ih2⟩:=aD.mono_l k
  refine⟨?_,?_,?_⟩
  ·intro y0 y1 y2
   unfold aD.l0
   have m0:=@bB.mono
   have m1:=@bS.mono
   have m2:=@dw.mono
   exact zm
  ·intro y0
   unfold aD.l1
   have m0:=@bB.mono
   have m1:=@bS.mono
   have m2:=@dw.mono
   exact zm
  ·intro y0 y1 y2
   unfold aD.l2
   have m0:=@bB.mono
   have m1:=@bS.mono
   have m2:=@dw.mono
   exact zm
theorem aD.mono:∀a0 k,gV (aD.f k a0) (aD.f (k+1) a0):=by
 intro a0 k
 obtain⟨ng,ih1,ih2⟩:=aD.mono_l k
 unfold aD.f
 have m0:=@bB.mono
 have m1:=@bS.mono
 have m2:=@dw.mono
 exact zm
theorem aD.calls(k:Nat)(a0:ByteArray)(r:ByteArray)(w:World)(h:aD.f k a0=some r):
 Calls Tryz.prog 109 #[.string a0] w fun e w'=>e= .returned (.string r)∧Below w.heap.size w w':=by
 have HB:=ah.mk (Below.refl w.heap.size w)
 have H:(aD.l0 k a0 (([]:List Int)) 0)=some r:=h
 clear h
 obtain⟨aos,OH⟩:∃y_:List Int,y_=(([]:List Int)):=⟨_,rfl⟩
 replace H:(aD.l0 k a0 aos 0)=some r:=by first|(rw[OH];with_reducible exact H)|(have fF:=(Option.bind_some _ _).symm.trans H;rw[OH];with_reducible exact fF)|(have fF:=(Option.bind_some _ _).symm.trans H;with_reducible exact fF)|with_reducible exact H|(rw[OH];exact H)|exact H
 have acU:=ah.mk OH
 clear OH
 have H':=ah.mk H
 clear H
 go_enter Tryz.func109,Tryz.ntmps109
 go_wp2_with (first|((with_reducible refine gd 8 rfl ?_);refine Kd.R_lit (Kd.int .i64) _ 3 ?hg (N:=8) ?hd (xs:=([]:List Int)) (inner:=[]) (ok:=fun _=>True) (okp:=fun _=>True) ?hr ?hp (fun _ hk=>hk) trivial (Below.refl _ _) (Nat.le_refl _) (by simp) ?_;(case hd=>rfl);(case hg=>rfl);(case hr=>first|(go_simp;done)|(go_simp;rfl));(case hp=>exact(dm.none _ _));intro aRj w2 ho3 hb nE fM;clear nE fM;(first|rw[←acU.out]at ho3|(simp only[Int.reduceToNat]at ho3;rw[←acU.out]at ho3));have aot:=ah.mk (Kd.R_lower ho3 (aJ (zb HB)));replace HB:=ah.mk (ai (zb HB) hb);clear hb ho3))
 go_loopg [3,4] k (fun kq v3 v4 w'=>∃(cO:List Int)(eu:Int),v4= .int .i64 eu∧ah (aD.l0 kq a0 cO eu=some r)∧ah (kq≤k)∧ah (Kd.R (Kd.int .i64) 3 w' w.heap.size (fun _=>True) v3 cO)∧ah (Below w.heap.size w w'))
 case atStart=>exact⟨(aos),(0),zs,H',⟨Nat.le_refl _⟩,⟨by exact zr aot⟩,⟨zb HB⟩⟩
 case round=>
  clear H'
  try clear c1
  try clear p2
  obtain⟨cO,eu,rfl,HA,jc,HO_3,HB⟩:=hrel
  cases gk with
  |zero=>exact absurd HA.out (by simp[aD.l0])
  |succ k1=>
   have H:=HA.out
   clear HA
   simp only[aD.l0]at H
   replace H:=sp H
   rcases H with⟨c4,H⟩|⟨c4,H⟩
   ·skip
    have c4b0:=decide_eq_true c4
    clear c4
    by_cases c5:0≤eu
    ·rw[if_pos c5]at H
     have c5b0:=decide_eq_true c5
     clear c5
     obtain⟨F6,A7,H⟩:=ob H
     (try dsimp only at H)
     by_cases c8:F6<24
     ·rw[if_pos c8]at H
      have c8b0:=decide_eq_true c8
      clear c8
      obtain⟨OE,A9,H⟩:=ob H
      (try dsimp only at H)
      by_cases c10:cO.length+OE.length<17592186044416
      ·rw[if_pos c10]at H
       have aou:=ah.mk c10
       clear c10
       obtain⟨aov,OI⟩:∃y_:List Int,y_=(cO++OE):=⟨_,rfl⟩
       replace H:(aD.l0 k1 a0 aov (wrap64 (eu+1)))=some r:=by first|(rw[OI];with_reducible exact H)|(have fF:=(Option.bind_some _ _).symm.trans H;rw[OI];with_reducible exact fF)|(have fF:=(Option.bind_some _ _).symm.trans H;with_reducible exact fF)|with_reducible exact H|(rw[OI];exact H)|exact H
       have aow:=ah.mk OI
       clear OI
       have H':=ah.mk H
       clear H
       have p6:0≤(eu:Int):=of_decide_eq_true za
       have q6:eu<(a0.size:Int):=of_decide_eq_true za
       have hx6:=gB a0 eu
       replace p6:=eq_true p6
       replace q6:=eq_true q6
       go_wp2_with (first|((with_reducible refine gq 74 rfl ?_);refine gl (some 18) Tryz.func74 #[.int .u8 (bt a0 eu)] ?_;(with_reducible refine(dw.calls k1 (bt a0 eu) F6 _ A7.out).mono ?_);rintro e w' ⟨rfl,⟨nd,rfl⟩⟩;refine⟨_,rfl,?_⟩)|((with_reducible refine gq 114 rfl ?_);refine gl (some 23) Tryz.func114 #[.int .i64 F6,.int .i64 5] ?_;(with_reducible refine(bB.calls k1 F6 5 OE _ A9.out).mono ?_);rintro e w11 ⟨aRk,rfl,ho0,hb⟩;refine⟨_,rfl,?_⟩;have OJ:=ah.mk (Kd.R_lower (Kd.R_new' ho0 (Kd.R_lt (zr HO_3))) (aJ (zb HB)));replace HO_3:=ah.mk (Kd.R_elder' (zr HO_3) (Kd.R_base ho0) hb);replace HB:=ah.mk (ai (zb HB) hb);(try clear hb);(try clear ho0);obtain⟨a9e,a9f,ag2⟩:=Kd.R_slice OJ.out;subst ag2)|((with_reducible refine kS (b:=.append) (xs:=#[.tmp 21,.tmp 23]) rfl ?_);at_builtin;refine Kd.R_append_rows (Kd.int .i64) (w0:=w) w.heap.size rfl (.tmp 21) (.tmp 23) 91 3 (.int .i64 0) 8 rfl Tryz.underlying91 info3 rfl (by decide) (by omega) u3 cO OE _ _ _ (fun k_=>some k_≠(.slice a9e OE.length a9f:Value).ownBlock) (fun _=>False) rfl rfl ?aO ?aR (fun _ _ h=>h) (fun _ h=>h.elim) ?aF ?aB ?aS ?aL ?_;(case aR=>exact zc (Kd.R_reads' OJ.out).2.2);(case aB=>exact(zb HB));(case aF=>exact(fun k_ hk=>Kd.fresh' (Kd.R_lt (zr OJ)) k_ hk));(case aO=>exact(zq (Kd.R_mono HO_3.out (fun _ hk=>hk.2))));(case aS=>exact(aJ (zb HB)));(case aL=>have:=aou.out;omega);intro aRl Xm ho hb hg hat;rw[←aow.out]at ho;replace OJ:=ah.mk (Kd.R_after (ok:=(fun _=>True)) (zr OJ) hg hat);replace HB:=ah.mk (hb);have aox:=ah.mk (ho);clear HO_3;clear ho hb hg hat))
       go_roundg k1
       case measure=>have:=jc.out;omega
       case rel=>exact⟨(aov),(wrap64 (eu+1)),zs,H',⟨by have:=jc.out;omega⟩,⟨zq (Kd.R_mono aox.out (fun _ hk=>trivial))⟩,⟨zb HB⟩⟩
      ·rw[if_neg c10]at H
       exact absurd H (by simp)
     ·rw[if_neg c8]at H
      have c8b0:=decide_eq_false c8
      clear c8
      obtain⟨OG,A14,H⟩:=ob H
      (try dsimp only at H)
      by_cases c15:cO.length+OG.length<17592186044416
      ·rw[if_pos c15]at H
       have aoy:=ah.mk c15
       clear c15
       obtain⟨aoz,OL⟩:∃y_:List Int,y_=(cO++OG):=⟨_,rfl⟩
       replace H:(aD.l0 k1 a0 aoz (wrap64 (eu+1)))=some r:=by first|(rw[OL];with_reducible exact H)|(have fF:=(Option.bind_some _ _).symm.trans H;rw[OL];with_reducible exact fF)|(have fF:=(Option.bind_some _ _).symm.trans H;with_reducible exact fF)|with_reducible exact H|(rw[OL];exact H)|exact H
       have aoA:=ah.mk OL
       clear OL
       have H':=ah.mk H
       clear H
       have p6:0≤(eu:Int):=of_decide_eq_true za
       have q6:eu<(a0.size:Int):=of_decide_eq_true za
       have hx6:=gB a0 eu
       replace p6:=eq_true p6
       replace q6:=eq_true q6
       go_wp2_with (first|((with_reducible refine gq 74 rfl ?_);refine gl (some 18) Tryz.func74 #[.int .u8 (bt a0 eu)] ?_;(with_reducible refine(dw.calls k1 (bt a0 eu) F6 _ A7.out).mono ?_);rintro e w' ⟨rfl,⟨nd,rfl⟩⟩;refine⟨_,rfl,?_⟩)|((with_reducible refine gq 114 rfl ?_);refine gl (some 29) Tryz.func114 #[.int .i64 (wrap64 ((wrap64 (96+F6))-24)),.int .i64 7] ?_;(with_reducible refine(bB.calls k1 (wrap64 ((wrap64 (96+F6))-24)) 7 OG _ A14.out).mono ?_);rintro e w16 ⟨aRm,rfl,ho0,hb⟩;refine⟨_,rfl,?_⟩;have OM:=ah.mk (Kd.R_lower (Kd.R_new' ho0 (Kd.R_lt (zr HO_3))) (aJ (zb HB)));replace HO_3:=ah.mk (Kd.R_elder' (zr HO_3) (Kd.R_base ho0) hb);replace HB:=ah.mk (ai (zb HB) hb);(try clear hb);(try clear ho0);obtain⟨D8,BG,NJ⟩:=Kd.R_slice OM.out;subst NJ)|((with_reducible refine kS (b:=.append) (xs:=#[.tmp 25,.tmp 29]) rfl ?_);at_builtin;refine Kd.R_append_rows (Kd.int .i64) (w0:=w) w.heap.size rfl (.tmp 25) (.tmp 29) 91 3 (.int .i64 0) 8 rfl Tryz.underlying91 info3 rfl (by decide) (by omega) u3 cO OG _ _ _ (fun k_=>some k_≠(.slice D8 OG.length BG:Value).ownBlock) (fun _=>False) rfl rfl ?aO ?aR (fun _ _ h=>h) (fun _ h=>h.elim) ?aF ?aB ?aS ?aL ?_;(case aR=>exact zc (Kd.R_reads' OM.out).2.2);(case aB=>exact(zb HB));(case aF=>exact(fun k_ hk=>Kd.fresh' (Kd.R_lt (zr OM)) k_ hk));(case aO=>exact(zq (Kd.R_mono HO_3.out (fun _ hk=>hk.2))));(case aS=>exact(aJ (zb HB)));(case aL=>have:=aoy.out;omega);intro aRn w17 ho hb hg hat;rw[←aoA.out]at ho;replace OM:=ah.mk (Kd.R_after (ok:=(fun _=>True)) (zr OM) hg hat);replace HB:=ah.mk (hb);have aoB:=ah.mk (ho);clear HO_3;clear ho hb hg hat))
       go_roundg k1
       case measure=>have:=jc.out;omega
       case rel=>exact⟨(aoz),(wrap64 (eu+1)),zs,H',⟨by have:=jc.out;omega⟩,⟨zq (Kd.R_mono aoB.out (fun _ hk=>trivial))⟩,⟨zb HB⟩⟩
      ·rw[if_neg c15]at H
       exact absurd H (by simp)
    ·rw[if_neg c5]at H
     exact absurd H (by simp)
   ·skip
    have c4b0:=decide_eq_false c4
    clear c4
    have H':=ah.mk H
    clear H
    go_wp2
    go_loopg [3] k1 (fun kq v3 w'=>∃(tO:List Int),ah (aD.l1 kq tO=some r)∧ah (kq≤k1)∧ah (Kd.R (Kd.int .i64) 3 w' w.heap.size (fun _=>True) v3 tO)∧ah (Below w.heap.size w w'))
    case atStart=>exact⟨(cO),H',⟨Nat.le_refl _⟩,⟨by exact zr HO_3⟩,⟨zb HB⟩⟩
    case round=>
     clear H'
     try clear c1
     try clear p2
     try clear c4
     try clear c4b0
     try clear c5
     try clear c5b0
     try clear p6
     try clear q6
     try clear hx6
     try clear c7
     try clear c8
     try clear c8b0
     try clear c10
     try clear c11
     try clear c15
     try clear p2
     try clear p6
     try clear q6
     obtain⟨tO,HA,M5,HO_3,HB⟩:=hrel
     cases gk with
     |zero=>exact absurd HA.out (by simp[aD.l1])
     |succ k2=>
      have H:=HA.out
      clear HA
      simp only[aD.l1]at H
      replace H:=sp H
      rcases H with⟨c19,H⟩|⟨c19,H⟩
      ·skip
       have c19b0:=decide_eq_true c19
       clear c19
       by_cases c20:tO.length<17592186044416
       ·rw[if_pos c20]at H
        have aoC:=ah.mk c20
        clear c20
        obtain⟨aoD,OO⟩:∃y_:List Int,y_=(tO++[1]):=⟨_,rfl⟩
        replace H:(aD.l1 k2 aoD)=some r:=by first|(rw[OO];with_reducible exact H)|(have fF:=(Option.bind_some _ _).symm.trans H;rw[OO];with_reducible exact fF)|(have fF:=(Option.bind_some _ _).symm.trans H;with_reducible exact fF)|with_reducible exact H|(rw[OO];exact H)|exact H
        have aoE:=ah.mk OO
        clear OO
        have H':=ah.mk H
        clear H
        obtain⟨aDf,aDg,aDh⟩:=Kd.R_slice HO_3.out
        subst aDh
        go_wp2_with (first|((with_reducible refine kS (b:=.append) (xs:=#[.tmp 35,.tmp 36]) rfl ?_);at_builtin;refine Kd.R_append (Kd.int .i64) (w0:=w) w.heap.size rfl (.tmp 35) (.tmp 36) 91 3 (.int .i64 0) 8 rfl Tryz.underlying91 info3 rfl (by decide) (by omega) (.slice aDf tO.length aDg) tO 1 [.int .i64 1] (fun _=>True) (fun _=>False) rfl rfl ?aP (fun _ hk=>hk.elim) ?aF ?aO ?aB ?aS ?aL ?_;(case aP=>exact rfl);(case aB=>exact(zb HB));(case aF=>exact(fun _ _=>trivial));(case aO=>exact(zr HO_3));(case aS=>exact(aJ (zb HB)));(case aL=>have:=aoC.out;omega);intro aRo w22 ho hb hg hat;rw[←aoE.out]at ho;replace HB:=ah.mk (hb);have aoF:=ah.mk (ho);clear HO_3;clear ho hb hg hat))
        go_roundg k2
        case measure=>have:=jc.out;have:=M5.out;omega
        case rel=>exact⟨(aoD),H',⟨by have:=jc.out;have:=M5.out;omega⟩,⟨by exact zr aoF⟩,⟨zb HB⟩⟩
       ·rw[if_neg c20]at H
        exact absurd H (by simp)
      ·skip
       have c19b0:=decide_eq_false c19
       clear c19
       have H':=ah.mk H
       clear H
       obtain⟨vQ,uF,afy⟩:=Kd.R_slice HO_3.out
       subst afy
       go_wp2
       go_loopg [6,7] k2 (fun kq v6 v7 w'=>∃(OP:ByteArray)(nT:Int),v6= .string OP∧v7= .int .i64 nT∧ah (aD.l2 kq tO OP nT=some r)∧ah (kq≤k2)∧ah (Kd.R (Kd.int .i64) 3 w' w.heap.size (fun _=>True) (.slice vQ tO.length uF) tO)∧ah (Below w.heap.size w w'))
       case atStart=>exact⟨((⟨#[]⟩:ByteArray)),(0),zs,zs,H',⟨Nat.le_refl _⟩,⟨by exact zr HO_3⟩,⟨zb HB⟩⟩
       case round=>
        clear H'
        try clear c1
        try clear c2
        try clear p2
        try clear c4
        try clear c4b0
        try clear c5
        try clear c5b0
        try clear p6
        try clear q6
        try clear hx6
        try clear c7
        try clear c8
        try clear c8b0
        try clear c10
        try clear c11
        try clear c15
        try clear c19
        try clear c19b0
        try clear c20
        try clear p2
        try clear p6
        try clear q6
        obtain⟨OP,nT,rfl,rfl,HA,HK3,HO_3,HB⟩:=hrel
        cases gk with
        |zero=>exact absurd HA.out (by simp[aD.l2])
        |succ k3=>
         have H:=HA.out
         clear HA
         simp only[aD.l2]at H
         replace H:=sp H
         rcases H with⟨c24,H⟩|⟨c24,H⟩
         ·skip
          have c24b0:=decide_eq_true c24
          clear c24
          by_cases Gf:0≤nT
          ·rw[if_pos Gf]at H
           have c25b0:=eq_true Gf
           have c25b1:=decide_eq_true Gf
           clear Gf
           by_cases Ke:nT≤(wrap64 (nT+8))
           ·rw[if_pos Ke]at H
            have c26b0:=eq_true Ke
            have c26b1:=decide_eq_true Ke
            by_cases c27:(wrap64 (nT+8))≤(tO.length:Int)
            ·rw[if_pos c27]at H
             have c27b0:=eq_true c27
             have c27b1:=decide_eq_true c27
             obtain⟨OQ,OT⟩:∃y_:List Int,y_=((tO.take ((wrap64 (nT+8)):Int).toNat).drop (nT:Int).toNat):=⟨_,rfl⟩
             replace H:((bS.f k3 OQ).bind fun Rj=>((bP.f Rj).bind fun Gt=>(if OP.size+Gt.size≤9223372036854775807 then(aD.l2 k3 tO (OP++Gt) (wrap64 (nT+8)))else(none))))=some r:=by first|(rw[OT];with_reducible exact H)|(have fF:=(Option.bind_some _ _).symm.trans H;rw[OT];with_reducible exact fF)|(have fF:=(Option.bind_some _ _).symm.trans H;with_reducible exact fF)|with_reducible exact H|(rw[OT];exact H)|exact H
             have acV:=ah.mk OT
             clear OT
             obtain⟨Rj,A28,H⟩:=ob H
             (try dsimp only at H)
             obtain⟨Gt,A29,H⟩:=ob H
             (try dsimp only at H)
             by_cases QE:OP.size+Gt.size≤9223372036854775807
             ·rw[if_pos QE]at H
              have c30b0:=eq_true QE
              have c30b1:=decide_eq_true QE
              try have c30b2:(9223372036854775807<OP.size+Gt.size)=False:=eq_false (Nat.not_lt.2 QE)
              have H':=ah.mk H
              clear H
              have q31:((wrap64 (nT+8)):Int)≤((tO.length:Int):Int):=of_decide_eq_true za
              obtain⟨aRq,acW,_,acX,_⟩:=info_parts info3
              have hroom31:tO.length≤uF:=(Kd.R_reads' HO_3.out).2.1
              have aoG:Kd.C (Kd.int .i64) _ vQ tO.length tO:=(Kd.R_reads' HO_3.out).2.2
              have aDj:(nT:Int)≤((wrap64 (nT+8)):Int):=of_decide_eq_true za
              have aDk:(0:Int)≤(nT:Int):=of_decide_eq_true za
              have agb:=a3v (P:=Tryz.prog) 91 3 .i64 .i64 Tryz.underlying91 acW 1 acX vQ tO.length uF nT (wrap64 (nT+8)) aDk aDj q31 hroom31
              have a1u:=Kd.C_mid (lo:=(nT:Int).toNat) (hi:=((wrap64 (nT+8)):Int).toNat) (c:=uF) aoG (by omega) (by omega) hroom31
              obtain⟨A31,a9h⟩:∃A1,A1=(if uF=(nT:Int).toNat then vQ else(vQ:Option Addr).map (·.add ((nT:Int).toNat*1))):=⟨_,rfl⟩
              obtain⟨c31,hc31⟩:∃c1,c1=uF-(nT:Int).toNat:=⟨_,rfl⟩
              have hy31:OQ.length=((wrap64 (nT+8)):Int).toNat-(nT:Int).toNat:=(by rw[acV.out,List.length_drop,List.length_take]<;>omega)
              rw[show((tO).take ((wrap64 (nT+8)):Int).toNat).drop (nT:Int).toNat=OQ from acV.out.symm]at a1u
              replace a1u:Kd.C (Kd.int .i64) _ A31 OQ.length OQ:=(by rw[a9h];exact a1u)
              rw[←hy31,←a9h,←hc31]at agb
              have a1v:=ah.mk a1u
              have aoH:=ah.mk (show OQ.length≤c31 from by rw[hy31,hc31];exact Nat.sub_le_sub_right (Nat.le_trans (by omega) hroom31) _)
              clear a1u aoG hroom31 acW acX hc31
              have aRr:=ah.mk hy31
              have aRs:=ah.mk a9h
              clear hy31 a9h
              have aRt:=ah.mk (show((wrap64 (nT+8)):Int).toNat≤tO.length from by omega)
              have aRu:=ah.mk (show(nT:Int).toNat≤((wrap64 (nT+8)):Int).toNat from by omega)
              replace q31:=eq_true q31
              go_wp2_with (first|((with_reducible refine gq 115 rfl ?_);refine gl (some 50) Tryz.func115 #[.slice A31 OQ.length c31] ?_;(with_reducible refine(bS.calls k3 _ _ OQ Rj _ ?aN ?aQ A28.out).mono ?_);(case aN=>exact zc a1v.out);(case aQ=>exact aoH.out);rintro e w' ⟨rfl,⟨nd,rfl⟩⟩;refine⟨_,rfl,?_⟩)|((with_reducible refine gq 59 rfl ?_);refine gl (some 51) Tryz.func59 #[.int .i64 Rj] ?_;(with_reducible refine(bP.calls Rj Gt _ A29.out).mono ?_);rintro e w32 ⟨rfl,hb⟩;refine⟨_,rfl,?_⟩;replace HO_3:=ah.mk (Kd.R_below (zr HO_3) hb);replace a1v:=ah.mk (Kd.C_below (zc a1v.out) hb);replace HB:=ah.mk (ai (zb HB) hb);(try clear hb)))
              go_roundg k3
              case measure=>have:=jc.out;have:=M5.out;have:=HK3.out;omega
              case rel=>exact⟨(OP++Gt),(wrap64 (nT+8)),zs,zs,H',⟨by have:=jc.out;have:=M5.out;have:=HK3.out;omega⟩,⟨by exact zr HO_3⟩,⟨zb HB⟩⟩
             ·rw[if_neg QE]at H
              exact absurd H (by simp)
            ·rw[if_neg c27]at H
             exact absurd H (by simp)
           ·rw[if_neg Ke]at H
            exact absurd H (by simp)
          ·rw[if_neg Gf]at H
           exact absurd H (by simp)
         ·skip
          have c24b0:=decide_eq_false c24
          clear c24
          obtain rfl:=Option.some.inj H
          go_wp2
          go_ret
          exact⟨ze,zb HB⟩
def eZ.f(k:Nat)(a0:ByteArray):Option (ByteArray):=(aD.f k a0).bind fun xE=>(if(xE.size:Int)<(a0.size:Int)then((aU.f k (xE.size:Int) 7 1).bind fun Kl=>(if Kl.size+xE.size≤9223372036854775807 then(some (Kl++xE))else(none)))else((aU.f k (a0.size:Int) 7 0).bind fun OU=>(if OU.size+a0.size≤9223372036854775807 then(some (OU++a0))else(none))))
theorem eZ.mono:∀a0 k,gV (eZ.f k a0) (eZ.f (k+1) a0):=by
 intro a0 k
 unfold eZ.f
 have m0:=@aU.mono
 have m1:=@aD.mono
 exact zm
theorem eZ.calls(k:Nat)(a0:ByteArray)(r:ByteArray)(w:World)(h:eZ.f k a0=some r):
 Calls Tryz.prog 104 #[.string a0] w fun e w'=>e= .returned (.string r)∧Below w.heap.size w w':=by
 have HB:=ah.mk (Below.refl w.heap.size w)
 have H:((aD.f k a0).bind fun xE=>(if(xE.size:Int)<(a0.size:Int)then((aU.f k (xE.size:Int) 7 1).bind fun Kl=>(if Kl.size+xE.size≤9223372036854775807 then(some (Kl++xE))else(none)))else((aU.f k (a0.size:Int) 7 0).bind fun OU=>(if OU.size+a0.size≤9223372036854775807 then(some (OU++a0))else(none)))))=some r:=h
 clear h
 obtain⟨xE,A2,H⟩:=ob H
 (try dsimp only at H)
 replace H:=sp H
 rcases H with⟨c3,H⟩|⟨c3,H⟩
 ·skip
  have c3b0:=decide_eq_true c3
  have c3b1:=decide_eq_true (Int.ofNat_lt.mp c3)
  clear c3
  obtain⟨Kl,A4,H⟩:=ob H
  (try dsimp only at H)
  by_cases c5:Kl.size+xE.size≤9223372036854775807
  ·rw[if_pos c5]at H
   have c5b0:=eq_true c5
   have c5b1:=decide_eq_true c5
   try have c5b2:(9223372036854775807<Kl.size+xE.size)=False:=eq_false (Nat.not_lt.2 c5)
   obtain rfl:=Option.some.inj H
   go_enter Tryz.func104,Tryz.ntmps104
   go_wp2_with (first|((with_reducible refine gq 109 rfl ?_);refine gl (some 5) Tryz.func109 #[.string a0] ?_;(with_reducible refine(aD.calls k a0 xE _ A2.out).mono ?_);rintro e w6 ⟨rfl,hb⟩;refine⟨_,rfl,?_⟩;replace HB:=ah.mk (ai (zb HB) hb);(try clear hb))|((with_reducible refine gq 105 rfl ?_);refine gl (some 13) Tryz.func105 #[.int .i64 (xE.size:Int),.int .i64 7,.int .i64 1] ?_;(with_reducible refine(aU.calls k (xE.size:Int) 7 1 Kl _ A4.out).mono ?_);rintro e w7 ⟨rfl,hb⟩;refine⟨_,rfl,?_⟩;replace HB:=ah.mk (ai (zb HB) hb);(try clear hb)))
   go_ret
   exact⟨ze,zb HB⟩
  ·rw[if_neg c5]at H
   exact absurd H (by simp)
 ·skip
  have c3b0:=decide_eq_false c3
  have c3b1:=decide_eq_false (fun h=>c3 (Int.ofNat_lt.mpr h))
  clear c3
  obtain⟨OU,A8,H⟩:=ob H
  (try dsimp only at H)
  replace H:=sp H
  rcases H with⟨c9,H⟩|⟨c9,H⟩
  ·skip
   have c9b0:=eq_true c9
   have c9b1:=decide_eq_true c9
   try have c9b2:(9223372036854775807<OU.size+a0.size)=False:=eq_false (Nat.not_lt.2 c9)
   obtain rfl:=Option.some.inj H
   go_enter Tryz.func104,Tryz.ntmps104
   go_wp2_with (first|((with_reducible refine gq 109 rfl ?_);refine gl (some 5) Tryz.func109 #[.string a0] ?_;(with_reducible refine(aD.calls k a0 xE _ A2.out).mono ?_);rintro e w10 ⟨rfl,hb⟩;refine⟨_,rfl,?_⟩;replace HB:=ah.mk (ai (zb HB) hb);(try clear hb))|((with_reducible refine gq 105 rfl ?_);refine gl (some 18) Tryz.func105 #[.int .i64 (a0.size:Int),.int .i64 7,.int .i64 0] ?_;(with_reducible refine(aU.calls k (a0.size:Int) 7 0 OU _ A8.out).mono ?_);rintro e w11 ⟨rfl,hb⟩;refine⟨_,rfl,?_⟩;replace HB:=ah.mk (ai (zb HB) hb);(try clear hb)))
   go_ret
   exact⟨ze,zb HB⟩
  ·skip
   exact absurd H (by simp)
def dR.f(k:Nat)(a0:Int)(a1:Int)(a2:Int)(Km:ByteArray)(a1w:ByteArray)(a1x:Bool):Option (ByteArray):=if a0>0 then((aU.f k a0 a1 a2).bind fun a1y=>(some a1y))else((aU.f k 0 a1 a2).bind fun OV=>((eZ.f k Km).bind fun OW=>(if OV.size+OW.size≤9223372036854775807 then(some (OV++OW))else(none))))
theorem dR.mono:∀a0 a1 a2 a3 a4 a5 k,gV (dR.f k a0 a1 a2 a3 a4 a5) (dR.f (k+1) a0 a1 a2 a3 a4 a5):=by
 intro a0 a1 a2 a3 a4 a5 k
 unfold dR.f
 have m0:=@aU.mono
 have m1:=@eZ.mono
 exact zm
def dR.T3:Bool×List (List Nat×List Nat):=(true,[([],[]),([],[]),([0,1],[0,1]),([],[]),([3],[3]),([4,2],[4]),([2,5],[2,5]),([6,5,0,1,2,3,4,5,6],[6])])
def dR.B3:List Nat:=[0,0,3,0,8,31,63,127]
theorem dR.tab3:jm .any (opsOf Tryz.f103 3)=dR.T3:=by kernel_rfl
theorem dR.bits3:fQ dR.T3.2 dR.B3=true:=by kernel_rfl
theorem dR.calls(k:Nat)(a0:Int)(a1:Int)(a2:Int)(Km:ByteArray)(a1w:ByteArray)(a1x:Bool)(r:ByteArray)(w:World)(h:dR.f k a0 a1 a2 Km a1w a1x=some r):
 Calls Tryz.prog 103 #[.int .i64 a0,.int .i64 a1,.int .i64 a2,.agg #[.string Km,.string a1w,.bool a1x]] w fun e w'=>e= .returned (.string r)∧Below w.heap.size w w':=by
 have rZ:=Tryz.underlying89
 have HB:=ah.mk (Below.refl w.heap.size w)
 have H:(if a0>0 then((aU.f k a0 a1 a2).bind fun a1y=>(some a1y))else((aU.f k 0 a1 a2).bind fun OV=>((eZ.f k Km).bind fun OW=>(if OV.size+OW.size≤9223372036854775807 then(some (OV++OW))else(none)))))=some r:=h
 clear h
 replace H:=sp H
 rcases H with⟨c5,H⟩|⟨c5,H⟩
 ·skip
  have c5b0:=decide_eq_true c5
  clear c5
  obtain⟨a1y,A6,H⟩:=ob H
  (try dsimp only at H)
  obtain rfl:=Option.some.inj H
  go_enter Tryz.func103,Tryz.ntmps103
  go_wp2_with (first|((with_reducible refine gd 7 rfl ?_);refine bx (N:=7) (cs:=#[.string Km,.string a1w,.bool a1x]) (t:=89) ?_;intro aoI hg w7 hbox hb;have tQ:=ah.mk (hbox);have a1z:=gw HB hg;have aoJ:=a1z;replace HB:=ah.mk (ai (zb HB) hb);clear hb hbox hg)|((with_reducible refine gq 105 rfl ?_);refine gl (some 14) Tryz.func105 #[.int .i64 a0,.int .i64 a1,.int .i64 a2] ?_;(with_reducible refine(aU.calls k a0 a1 a2 a1y _ A6.out).mono ?_);rintro e w8 ⟨rfl,hb⟩;refine⟨_,rfl,?_⟩;replace tQ:=kb tQ hb;replace HB:=ah.mk (ai (zb HB) hb);(try clear hb)))
  go_ret
  exact⟨ze,zb HB⟩
 ·skip
  have c5b0:=decide_eq_false c5
  clear c5
  obtain⟨OV,A9,H⟩:=ob H
  (try dsimp only at H)
  obtain⟨OW,Qb,H⟩:=ob H
  (try dsimp only at H)
  replace H:=sp H
  rcases H with⟨c11,H⟩|⟨c11,H⟩
  ·skip
   have c11b0:=eq_true c11
   have c11b1:=decide_eq_true c11
   try have c11b2:(9223372036854775807<OV.size+OW.size)=False:=eq_false (Nat.not_lt.2 c11)
   obtain rfl:=Option.some.inj H
   go_enter Tryz.func103,Tryz.ntmps103
   try go_wp2_with (first|((with_reducible refine gd 7 rfl ?_);refine bx (N:=7) (cs:=#[.string Km,.string a1w,.bool a1x]) (t:=89) ?_;intro aoI hg Xm hbox hb;have tQ:=ah.mk (hbox);have a1z:=gw HB hg;have aoJ:=a1z;replace HB:=ah.mk (ai (zb HB) hb);clear hb hbox hg))
   replace tQ:=ah.mk (dn tQ.out)
   replace HB:=ah.mk (dG HB.out)
   refine st 8 (b3 tQ) (fun hHeld=>?_);refine bR dR.tab3 dR.bits3 (fun HT_ HW_=>?_)
   generalize Xm.drew=w13 at tQ HB hHeld ⊢
   refine pu 0 (some 15) (bm 8 1) rfl rfl ?_
   refine pu 1 (some 16) (bm 8 3) rfl rfl ?_
   refine pu 3 (some 18) (bm 8 11) rfl rfl ?_
   refine tk 4 (some 19) (bm 8 27) rfl rfl hHeld ?_
   refine fV (i:=2) (N:=some 17) (bm 8 31) rfl rfl (bL HT_.out (by kernel_rfl)) (by decide) (fun K hK=>?_)
   refine gs Tryz.func105 #[.int .i64 0,.int .i64 a1,.int .i64 a2] ?_
   with_reducible refine(aU.calls k 0 a1 a2 OV _ A9.out).mono ?_
   rintro e D5 ⟨rfl,hb⟩
   refine⟨_,rfl,?_⟩
   replace tQ:=kb tQ hb
   replace HB:=ah.mk (ai (zb HB) hb)
   (try clear hb)
   refine hK.out _ _ (b3 tQ) (fun hHeld=>?_)
   clear hK K
   refine nm ?_
   refine fV (i:=5) (N:=some 20) (bm 8 63) rfl rfl (bL HT_.out (by kernel_rfl)) (by decide) (fun K hK=>?_)
   refine gs Tryz.func104 #[.string Km] ?_
   with_reducible refine(eZ.calls k Km OW _ Qb.out).mono ?_
   rintro e w15 ⟨rfl,hb⟩
   refine⟨_,rfl,?_⟩
   replace tQ:=kb tQ hb
   replace HB:=ah.mk (ai (zb HB) hb)
   (try clear hb)
   refine hK.out _ _ (b3 tQ) (fun hHeld=>?_)
   clear hK K
   refine nm ?_
   refine pu 6 (some 21) (bm 8 127) rfl rfl ?_
   refine pu 7 (some 8) (bm 8 255) rfl rfl ?_
   refine fw (dM HT_.out (by kernel_rfl)) ?_
   try go_wp2
   go_ret
   exact⟨ze,zb HB⟩
  ·skip
   exact absurd H (by simp)
def bY.f(k:Nat)(aH:List (bg))(aA:Int)(iY:ByteArray)(iK:ByteArray)(lW:Bool):Option ((List (bg))×Int×ByteArray):=(bE.f k aH aA iY iK lW).bind fun Ar=>(if lW=true then((dR.f k Ar.1 4 1 iY iK lW).bind fun OX=>((eZ.f k iK).bind fun OY=>(if OX.size+OY.size≤9223372036854775807 then(some (aH,aA,OX++OY))else(none))))else(if Ar.2=true then((aU.f k Ar.1 7 1).bind fun a1A=>(some (aH,aA,a1A)))else((dS.f k aH aA iY iK lW).bind fun OZ=>((dR.f k Ar.1 6 1 iY iK lW).bind fun P5=>((eZ.f k iK).bind fun P6=>(if P5.size+P6.size≤9223372036854775807 then(some (OZ.1,OZ.2,P5++P6))else(none)))))))
theorem bY.mono:∀a0 a1 a2 a3 a4 k,gV (bY.f k a0 a1 a2 a3 a4) (bY.f (k+1) a0 a1 a2 a3 a4):=by
 intro a0 a1 a2 a3 a4 k
 unfold bY.f
 have m0:=@dR.mono
 have m1:=@aU.mono
 have m2:=@eZ.mono
 have m3:=@dS.mono
 have m4:=@bE.mono
 exact zm
def bY.T3:Bool×List (List Nat×List Nat):=(true,[([],[]),([],[]),([],[]),([1,2],[1,2]),([],[]),([4],[4]),([5,3],[5]),([3,6],[3,6]),([0,6,0],[0]),([7,8,0,1,2,3,4,5,6,7,8],[7])])
def bY.B3:List Nat:=[0,0,0,6,0,16,62,126,127,511]
theorem bY.tab3:jm .any (opsOf Tryz.f98 3)=bY.T3:=by kernel_rfl
theorem bY.bits3:fQ bY.T3.2 bY.B3=true:=by kernel_rfl
def bY.T6:Bool×List (List Nat×List Nat):=(true,[([],[]),([],[]),([0,1],[0,1]),([],[]),([],[]),([3,4,2],[3,4]),([],[]),([6],[6]),([7,5],[7]),([5,8],[5,8]),([2,8,0,1,2],[2]),([9,10,0,1,2,3,4,5,6,7,8,9,10],[9])])
def bY.B6:List Nat:=[0,0,3,0,0,31,0,64,255,511,511,2047]
theorem bY.tab6:jm .any (opsOf Tryz.f98 6)=bY.T6:=by kernel_rfl
theorem bY.bits6:fQ bY.T6.2 bY.B6=true:=by kernel_rfl
theorem bY.calls(k:Nat)(ji:Nat→Prop)(kW:Value)(aH:List (bg))(aA:Int)(iY:ByteArray)(iK:ByteArray)(lW:Bool)(r1:List (bg))(r2:Int)(r3:ByteArray)(w0 w:World)(hB:Below w0.heap.size w0 w)(EZ:Kd.R iF 89 w w0.heap.size ji kW aH)(h:bY.f k aH aA iY iK lW=some (r1,r2,r3)):
 Calls Tryz.prog 98 #[.agg #[kW,.int .i64 aA],.agg #[.string iY,.string iK,.bool lW]] w fun e w'=>∃vk:Value,e= .returned (.tuple #[.agg #[vk,.int .i64 r2],.string r3])∧Kd.R iF 89 w' w0.heap.size (fun k_=>(ji k_∨w.heap.size≤k_)) vk r1∧Below w0.heap.size w0 w'∧Kept w w' (fun _=>False):=by
 have zB:=Tryz.underlying25
 have rZ:=Tryz.underlying89
 have bC:=ah.mk (show Kd.R iF 89 w w0.heap.size (fun k_=>(ji k_∨w.heap.size≤k_)) kW aH from Kd.R_mono EZ (fun k_ hk=>(.inl hk)))
 have HK:=ah.mk (Kept.refl w (fun _=>False))
 have HW0:=ah.mk hB.size
 have HB:=ah.mk hB
 clear hB
 have H:((bE.f k aH aA iY iK lW).bind fun Ar=>(if lW=true then((dR.f k Ar.1 4 1 iY iK lW).bind fun OX=>((eZ.f k iK).bind fun OY=>(if OX.size+OY.size≤9223372036854775807 then(some (aH,aA,OX++OY))else(none))))else(if Ar.2=true then((aU.f k Ar.1 7 1).bind fun a1A=>(some (aH,aA,a1A)))else((dS.f k aH aA iY iK lW).bind fun OZ=>((dR.f k Ar.1 6 1 iY iK lW).bind fun P5=>((eZ.f k iK).bind fun P6=>(if P5.size+P6.size≤9223372036854775807 then(some (OZ.1,OZ.2,P5++P6))else(none))))))))=some (r1,r2,r3):=h
 clear h
 obtain⟨⟨Rk,aoK⟩,A3,H⟩:=ob H
 (try dsimp only at H)
 have HC4:=ah.mk H
 clear H
 obtain⟨Ao5,co5,eo5⟩:=Kd.R_slice bC.out
 subst eo5
 go_enter Tryz.func98,Tryz.ntmps98
 go_upto_if 14 with(first|((with_reducible refine gd 2 rfl ?_);refine bx (N:=2) (cs:=#[.slice Ao5 aH.length co5,.int .i64 aA]) (t:=25) ?_;intro acY hg w6 hbox hb;replace bC:=ah.mk (Kd.R_below (zr bC) hb);have iM:=ah.mk (hbox);have aoL:=ah.mk ((by rw[hg];exact(kz (w:=w)).1:w.heap.size≤acY));replace HK:=kq hb;have aN6:=ah.mk ((by rw[hg];exact(aJ (zb HB)):w0.heap.size≤acY));replace HB:=ah.mk (ai (zb HB) hb);clear hb hbox hg)|((with_reducible refine gd 3 rfl ?_);refine bx (N:=3) (cs:=#[.string iY,.string iK,.bool lW]) (t:=89) ?_;intro a1B hg w7 hbox hb;replace bC:=ah.mk (Kd.R_below (Kd.R_elderB (zr bC) a1B (Nat.le_of_eq hg.symm)) hb);have jd:=ah.mk (hbox);have aoM:=ah.mk ((by rw[hg];exact(kz (w:=w)).1:w.heap.size≤a1B));replace HK:=kq hb;have aN7:=ah.mk ((by rw[hg];exact(aJ (zb HB)):w0.heap.size≤a1B));replace HB:=ah.mk (ai (zb HB) hb);obtain⟨XJ,XK⟩:=nb iM hg;replace iM:=kb iM hb;clear hb hbox hg)|((with_reducible refine gd 4 rfl ?_);refine bx (N:=4) (cs:=#[.slice none 0 0,.int .i64 0]) (t:=25) ?_;intro jk hg w8 hbox hb;replace bC:=ah.mk (Kd.R_below (zr bC) hb);have iH:=ah.mk (hbox);have aoN:=ah.mk ((by rw[hg];exact(kz (w:=w)).1:w.heap.size≤jk));replace HK:=kq hb;have aN8:=ah.mk ((by rw[hg];exact(aJ (zb HB)):w0.heap.size≤jk));replace HB:=ah.mk (ai (zb HB) hb);obtain⟨ig,oH⟩:=nb iM hg;replace iM:=kb iM hb;obtain⟨iw,oI⟩:=nb jd hg;replace jd:=kb jd hb;clear hb hbox hg;have am8:=XJ.out;have am9:=XK.out;have aN9:=ig.out;have aNa:=oH.out;obtain⟨Tw,Tx,Ty,Tz⟩:=c2 iM;have an1:=iw.out;have an2:=oI.out;obtain⟨JU,JV,Vv,JW,JX,Vw⟩:=c3 jd)|((with_reducible refine gq 102 rfl ?_);refine gl (some 11) Tryz.func102 #[.agg #[.slice Ao5 aH.length co5,.int .i64 aA],.agg #[.string iY,.string iK,.bool lW]] ?_;(with_reducible refine(bE.calls k _ _ aH aA iY iK lW Rk aoK _ ?aN ?aQ A3.out).mono ?_);(case aN=>exact zc (Kd.R_reads' bC.out).2.2);(case aQ=>exact(Kd.R_reads' bC.out).2.1);rintro e D5 ⟨rfl,hb⟩;refine⟨_,rfl,?_⟩;replace bC:=ah.mk (Kd.R_below (zr bC) hb);replace iM:=kb iM hb;replace jd:=kb jd hb;replace iH:=kb iH hb;replace HK:=kq hb;replace HB:=ah.mk (ai (zb HB) hb);(try clear hb);obtain⟨zn,zo,zu,zw,zx,zy⟩:=c3 jd))
 (try simp only[Act.put,s1,s2,s3])
 have H:=HC4.out
 clear HC4
 by_cases c16:lW=true
 ·subst c16
  rw[if_pos rfl]at H
  obtain⟨OX,Xn,H⟩:=ob H
  (try dsimp only at H)
  obtain⟨OY,A18,H⟩:=ob H
  (try dsimp only at H)
  replace H:=sp H
  rcases H with⟨c19,H⟩|⟨c19,H⟩
  ·skip
   have c19b0:=eq_true c19
   have c19b1:=decide_eq_true c19
   try have c19b2:(9223372036854775807<OX.size+OY.size)=False:=eq_false (Nat.not_lt.2 c19)
   simp only[Option.some.injEq,Prod.mk.injEq]at H
   obtain⟨rfl,rfl,rfl⟩:=H
   try go_wp2
   replace bC:=ah.mk (Kd.R_drew bC.out)
   replace iM:=ah.mk (dn iM.out)
   replace jd:=ah.mk (dn jd.out)
   replace iH:=ah.mk (dn iH.out)
   replace HK:=ah.mk (Kept.drew HK.out)
   replace HB:=ah.mk (dG HB.out)
   refine st 10 (an (b2 iM) (b3 jd)) (fun hHeld=>?_);refine bR bY.tab3 bY.bits3 (fun HT_ HW_=>?_)
   generalize D5.drew=w20 at bC iM jd iH HK HB hHeld ⊢
   refine pu 1 (some 18) (bm 10 2) rfl rfl ?_
   refine pu 4 (some 21) (bm 10 18) rfl rfl ?_
   refine tk 0 (some 17) (bm 10 19) rfl rfl hHeld ?_
   refine tk 2 (some 19) (bm 10 23) rfl rfl hHeld ?_
   refine tk 5 (some 22) (bm 10 55) rfl rfl hHeld ?_
   refine fV (i:=3) (N:=some 20) (bm 10 63) rfl rfl (bL HT_.out (by kernel_rfl)) (by decide) (fun K hK=>?_)
   refine gs Tryz.func103 #[.int .i64 Rk,.int .i64 4,.int .i64 1,.agg #[.string iY,.string iK,.bool true]] ?_
   with_reducible refine(dR.calls k Rk 4 1 iY iK true OX _ Xn.out).mono ?_
   rintro e w21 ⟨rfl,hb⟩
   refine⟨_,rfl,?_⟩
   replace bC:=ah.mk (Kd.R_below (zr bC) hb)
   replace iM:=kb iM hb
   replace jd:=kb jd hb
   replace iH:=kb iH hb
   replace HK:=kq hb
   replace HB:=ah.mk (ai (zb HB) hb)
   (try clear hb)
   refine hK.out _ _ (an (b2 iM) (b3 jd)) (fun hHeld=>?_)
   clear hK K
   refine nm ?_
   refine fV (i:=6) (N:=some 23) (bm 10 127) rfl rfl (bL HT_.out (by kernel_rfl)) (by decide) (fun K hK=>?_)
   refine gs Tryz.func104 #[.string iK] ?_
   with_reducible refine(eZ.calls k iK OY _ A18.out).mono ?_
   rintro e w22 ⟨rfl,hb⟩
   refine⟨_,rfl,?_⟩
   replace bC:=ah.mk (Kd.R_below (zr bC) hb)
   replace iM:=kb iM hb
   replace jd:=kb jd hb
   replace iH:=kb iH hb
   replace HK:=kq hb
   replace HB:=ah.mk (ai (zb HB) hb)
   (try clear hb)
   refine hK.out _ _ (an (b2 iM) (b3 jd)) (fun hHeld=>?_)
   clear hK K
   refine nm ?_
   refine pu 7 (some 24) (bm 10 255) rfl rfl ?_
   refine fV (i:=8) (N:=none) (bm 10 511) rfl rfl (bL HT_.out (by kernel_rfl)) (by decide) (fun K hK=>?_)
   have aRw:w22.cell? ⟨jk,0,none⟩=some (.slice none 0 0):=(au iH.out 0).trans rfl
   have aNb:=ak iH.out 0
   have ayg:=ig.out
   have ayh:=iw.out
   have ayi:=oH.out
   have ayj:=oI.out
   have aRx:w22.cell? ⟨jk,1,none⟩=some (.int .i64 0):=(au iH.out 1).trans rfl
   have aNc:=ak iH.out 1
   have ayk:=ig.out
   have ayl:=iw.out
   have aym:=oH.out
   have ayn:=oI.out
   refine oW (w1:=?_) (by rfl) rfl ?_ ?_
   rotate_left
   ·go_simp
    rfl
   refine hK.out _ _ (an ⟨((cell_far (p:=⟨jk,_,none⟩) ig.out _).trans (((cell_far (p:=⟨jk,_,none⟩) ig.out _).trans (hHeld.1.1)))),((cell_far (p:=⟨jk,_,none⟩) ig.out _).trans (((cell_far (p:=⟨jk,_,none⟩) ig.out _).trans (hHeld.1.2))))⟩ ⟨((cell_far (p:=⟨jk,_,none⟩) iw.out _).trans (((cell_far (p:=⟨jk,_,none⟩) iw.out _).trans (hHeld.2.1)))),((cell_far (p:=⟨jk,_,none⟩) iw.out _).trans (((cell_far (p:=⟨jk,_,none⟩) iw.out _).trans (hHeld.2.2.1)))),((cell_far (p:=⟨jk,_,none⟩) iw.out _).trans (((cell_far (p:=⟨jk,_,none⟩) iw.out _).trans (hHeld.2.2.2))))⟩) (fun hHeld=>?_)
   clear hK K
   refine pu 9 (some 5) (bm 10 1023) rfl rfl ?_
   refine fw (dM HT_.out (by kernel_rfl)) ?_
   try go_wp2
   refine bodyPost_ret (fu rfl _ _ jk 25 #[.slice Ao5 aH.length co5,.int .i64 aA] (0,0) _ rfl (zp iH) Tryz.underlying25 rfl (by kernel_rfl)) rfl ?_
   exact⟨_,ze,(Kd.R_mono (qb (Kd.R_types bC.out iH.out (by decide))) (fun _ hk=>hk.1.1)),zb HB,kz⟩
  ·skip
   exact absurd H (by simp)
 ·replace c16:=Bool.eq_false_iff.mpr c16
  subst c16
  rw[if_neg (show ¬(false=true) by decide)]at H
  by_cases Gf:aoK=true
  ·subst Gf
   rw[if_pos rfl]at H
   obtain⟨a1A,A26,H⟩:=ob H
   (try dsimp only at H)
   simp only[Option.some.injEq,Prod.mk.injEq]at H
   obtain⟨rfl,rfl,rfl⟩:=H
   try go_wp2
   replace bC:=ah.mk (Kd.R_drew bC.out)
   replace iM:=ah.mk (dn iM.out)
   replace jd:=ah.mk (dn jd.out)
   replace iH:=ah.mk (dn iH.out)
   replace HK:=ah.mk (Kept.drew HK.out)
   replace HB:=ah.mk (dG HB.out)
   refine st 5 (b2 iM) (fun hHeld=>?_)
   generalize D5.drew=w27 at bC iM jd iH HK HB hHeld ⊢
   refine pu 1 (some 28) (bm 5 2) rfl rfl ?_
   refine tk 0 (some 27) (bm 5 3) rfl rfl hHeld ?_
   refine fV (i:=2) (N:=some 29) (bm 5 7) rfl rfl (by kernel_rfl) (by decide) (fun K hK=>?_)
   refine gs Tryz.func105 #[.int .i64 Rk,.int .i64 7,.int .i64 1] ?_
   with_reducible refine(aU.calls k Rk 7 1 a1A _ A26.out).mono ?_
   rintro e w28 ⟨rfl,hb⟩
   refine⟨_,rfl,?_⟩
   replace bC:=ah.mk (Kd.R_below (zr bC) hb)
   replace iM:=kb iM hb
   replace jd:=kb jd hb
   replace iH:=kb iH hb
   replace HK:=kq hb
   replace HB:=ah.mk (ai (zb HB) hb)
   (try clear hb)
   refine hK.out _ _ (b2 iM) (fun hHeld=>?_)
   clear hK K
   refine nm ?_
   refine fV (i:=3) (N:=none) (bm 5 15) rfl rfl (by kernel_rfl) (by decide) (fun K hK=>?_)
   have anw:w28.cell? ⟨jk,0,none⟩=some (.slice none 0 0):=(au iH.out 0).trans rfl
   have acH:=ak iH.out 0
   have VD:=ig.out
   have a8U:=iw.out
   have VE:=oH.out
   have a8V:=oI.out
   have aDl:w28.cell? ⟨jk,1,none⟩=some (.int .i64 0):=(au iH.out 1).trans rfl
   have aoP:=ak iH.out 1
   have a9i:=ig.out
   have ayo:=iw.out
   have a9j:=oH.out
   have ayp:=oI.out
   refine oW (w1:=?_) (by rfl) rfl ?_ ?_
   rotate_left
   ·go_simp
    rfl
   refine hK.out _ _ ⟨((cell_far (p:=⟨jk,_,none⟩) ig.out _).trans (((cell_far (p:=⟨jk,_,none⟩) ig.out _).trans (hHeld.1)))),((cell_far (p:=⟨jk,_,none⟩) ig.out _).trans (((cell_far (p:=⟨jk,_,none⟩) ig.out _).trans (hHeld.2))))⟩ (fun hHeld=>?_)
   clear hK K
   refine pu 4 (some 5) (bm 5 31) rfl rfl ?_
   refine fw (by kernel_rfl) ?_
   try go_wp2
   refine bodyPost_ret (fu rfl _ _ jk 25 #[.slice Ao5 aH.length co5,.int .i64 aA] (0,0) _ rfl (zp iH) Tryz.underlying25 rfl (by kernel_rfl)) rfl ?_
   exact⟨_,ze,(Kd.R_mono (qb (Kd.R_types bC.out iH.out (by decide))) (fun _ hk=>hk.1.1)),zb HB,kz⟩
  ·replace Gf:=Bool.eq_false_iff.mpr Gf
   subst Gf
   rw[if_neg (show ¬(false=true) by decide)]at H
   obtain⟨⟨aoQ,aoR⟩,A31,H⟩:=ob H
   (try dsimp only at H)
   obtain⟨P5,A32,H⟩:=ob H
   (try dsimp only at H)
   obtain⟨P6,A33,H⟩:=ob H
   (try dsimp only at H)
   replace H:=sp H
   rcases H with⟨c34,H⟩|⟨c34,H⟩
   ·skip
    have c34b0:=eq_true c34
    have c34b1:=decide_eq_true c34
    try have c34b2:(9223372036854775807<P5.size+P6.size)=False:=eq_false (Nat.not_lt.2 c34)
    simp only[Option.some.injEq,Prod.mk.injEq]at H
    obtain⟨rfl,rfl,rfl⟩:=H
    try go_wp2
    replace bC:=ah.mk (Kd.R_drew bC.out)
    replace iM:=ah.mk (dn iM.out)
    replace jd:=ah.mk (dn jd.out)
    replace iH:=ah.mk (dn iH.out)
    replace HK:=ah.mk (Kept.drew HK.out)
    replace HB:=ah.mk (dG HB.out)
    refine st 12 (an (b2 iM) (b3 jd)) (fun hHeld=>?_);refine bR bY.tab6 bY.bits6 (fun HT_ HW_=>?_)
    generalize D5.drew=w35 at bC iM jd iH HK HB hHeld ⊢
    refine pu 3 (some 33) (bm 12 8) rfl rfl ?_
    refine pu 6 (some 36) (bm 12 72) rfl rfl ?_
    refine tk 0 (some 30) (bm 12 73) rfl rfl hHeld ?_
    refine tk 1 (some 31) (bm 12 75) rfl rfl hHeld ?_
    refine tk 4 (some 34) (bm 12 91) rfl rfl hHeld ?_
    refine tk 7 (some 37) (bm 12 219) rfl rfl hHeld ?_
    refine fV (i:=2) (N:=some 32) (bm 12 223) rfl rfl (bL HT_.out (by kernel_rfl)) (by decide) (fun K hK=>?_)
    refine gs Tryz.func73 #[.agg #[.slice Ao5 aH.length co5,.int .i64 aA],.agg #[.string iY,.string iK,.bool false]] ?_
    with_reducible refine(dS.calls k _ _ aH aA iY iK false aoQ aoR _ ?aN ?aQ A31.out).mono ?_
    (case aN=>exact zc (Kd.R_reads' bC.out).2.2)
    (case aQ=>exact(Kd.R_reads' bC.out).2.1)
    rintro e w36 ⟨aRz,rfl,ho0,hb⟩
    refine⟨_,rfl,?_⟩
    have Hz:=ah.mk (Kd.R_lower (Kd.R_newB (Kd.R_new' (Kd.R_newM (M:=fun k_=>(ji k_∨w.heap.size≤k_)) ho0 (by first|exact HK.out.1|exact(show Kept w _ (fun _=>False)from by repeat(first|(with_reducible first|exact HK.out|apply Kept.alloc|apply Kept.drewN|apply Kept.drew|refine Kept.setCell ?_ (.inr aoL.out) _|refine Kept.setCell ?_ (.inr aoM.out) _|refine Kept.setCell ?_ (.inr aoN.out) _)|exact HK.out)).1) (fun k_ h_=>.inr h_)) (Kd.R_lt (zr bC))) (zk jd)) (aJ (zb HB)))
    replace bC:=ah.mk (Kd.R_elder' (zr bC) (Kd.R_base ho0) hb)
    replace iM:=kb iM hb
    replace jd:=kb jd hb
    replace iH:=kb iH hb
    replace HK:=kq hb
    replace HB:=ah.mk (ai (zb HB) hb)
    (try clear hb)
    (try clear ho0)
    refine hK.out _ _ (an (b2 iM) (b3 jd)) (fun hHeld=>?_)
    clear hK K
    refine nm ?_
    refine fV (i:=5) (N:=some 35) (bm 12 255) rfl rfl (bL HT_.out (by kernel_rfl)) (by decide) (fun K hK=>?_)
    refine gs Tryz.func103 #[.int .i64 Rk,.int .i64 6,.int .i64 1,.agg #[.string iY,.string iK,.bool false]] ?_
    with_reducible refine(dR.calls k Rk 6 1 iY iK false P5 _ A32.out).mono ?_
    rintro e w37 ⟨rfl,hb⟩
    refine⟨_,rfl,?_⟩
    replace bC:=ah.mk (Kd.R_below (zr bC) hb)
    replace Hz:=ah.mk (Kd.R_below (zr Hz) hb)
    replace iM:=kb iM hb
    replace jd:=kb jd hb
    replace iH:=kb iH hb
    replace HK:=kq hb
    replace HB:=ah.mk (ai (zb HB) hb)
    (try clear hb)
    refine hK.out _ _ (an (b2 iM) (b3 jd)) (fun hHeld=>?_)
    clear hK K
    refine nm ?_
    refine fV (i:=8) (N:=some 38) (bm 12 511) rfl rfl (bL HT_.out (by kernel_rfl)) (by decide) (fun K hK=>?_)
    refine gs Tryz.func104 #[.string iK] ?_
    with_reducible refine(eZ.calls k iK P6 _ A33.out).mono ?_
    rintro e w38 ⟨rfl,hb⟩
    refine⟨_,rfl,?_⟩
    replace bC:=ah.mk (Kd.R_below (zr bC) hb)
    replace Hz:=ah.mk (Kd.R_below (zr Hz) hb)
    replace iM:=kb iM hb
    replace jd:=kb jd hb
    replace iH:=kb iH hb
    replace HK:=kq hb
    replace HB:=ah.mk (ai (zb HB) hb)
    (try clear hb)
    obtain⟨ag4,ag5,a9g⟩:=Kd.R_slice Hz.out
    (first|subst a9g|(injection a9g with Cx Na Cy;have Nb:=Cx.symm;have Nc:=Cy.symm;clear Cx Na Cy;subst Nb;subst Nc))
    refine hK.out _ _ (an (b2 iM) (b3 jd)) (fun hHeld=>?_)
    clear hK K
    refine nm ?_
    refine pu 9 (some 39) (bm 12 1023) rfl rfl ?_
    refine fV (i:=10) (N:=none) (bm 12 2047) rfl rfl (bL HT_.out (by kernel_rfl)) (by decide) (fun K hK=>?_)
    have aRA:w38.cell? ⟨jk,0,none⟩=some (.slice none 0 0):=(au iH.out 0).trans rfl
    have aNd:=ak iH.out 0
    have ayq:=ig.out
    have ayr:=iw.out
    have ays:=oH.out
    have ayt:=oI.out
    have aCA:w38.cell? ⟨jk,1,none⟩=some (.int .i64 0):=(au iH.out 1).trans rfl
    have anA:=ak iH.out 1
    have a8W:=ig.out
    have ayu:=iw.out
    have a8X:=oH.out
    have ayv:=oI.out
    refine oW (w1:=?_) (by rfl) rfl ?_ ?_
    rotate_left
    ·go_simp
     rfl
    refine hK.out _ _ (an ⟨((cell_far (p:=⟨jk,_,none⟩) ig.out _).trans (((cell_far (p:=⟨jk,_,none⟩) ig.out _).trans (hHeld.1.1)))),((cell_far (p:=⟨jk,_,none⟩) ig.out _).trans (((cell_far (p:=⟨jk,_,none⟩) ig.out _).trans (hHeld.1.2))))⟩ ⟨((cell_far (p:=⟨jk,_,none⟩) iw.out _).trans (((cell_far (p:=⟨jk,_,none⟩) iw.out _).trans (hHeld.2.1)))),((cell_far (p:=⟨jk,_,none⟩) iw.out _).trans (((cell_far (p:=⟨jk,_,none⟩) iw.out _).trans (hHeld.2.2.1)))),((cell_far (p:=⟨jk,_,none⟩) iw.out _).trans (((cell_far (p:=⟨jk,_,none⟩) iw.out _).trans (hHeld.2.2.2))))⟩) (fun hHeld=>?_)
    clear hK K
    refine pu 11 (some 5) (bm 12 4095) rfl rfl ?_
    refine fw (dM HT_.out (by kernel_rfl)) ?_
    try go_wp2
    refine bodyPost_ret (fu rfl _ _ jk 25 #[.slice ag4 aoQ.length ag5,.int .i64 aoR] (0,0) _ rfl (zp iH) Tryz.underlying25 rfl (by kernel_rfl)) rfl ?_
    exact⟨_,ze,(Kd.R_mono (qb (Kd.R_types Hz.out iH.out (by decide))) (fun _ hk=>hk.1.1.1.1)),zb HB,kz⟩
   ·skip
    exact absurd H (by simp)
end Go.Proofs.YtokblgdgpnakpaaGreat.PFnEndLess
