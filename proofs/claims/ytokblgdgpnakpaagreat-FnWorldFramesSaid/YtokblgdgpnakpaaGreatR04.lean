/- FnWorldFrames holds: part 4 of a proof that the given program meets it (printed texts and walks of our own, made short by a program). No condition. -/
import Derived.Test.YtokblgdgpnakpaaGreatR03
set_option linter.unusedVariables false
set_option linter.unusedSimpArgs false
set_option maxHeartbeats 8000000
set_option maxRecDepth 100000
namespace Go.Proofs.YtokblgdgpnakpaaGreat.PFnEndLess
open Go.RowKit Go.Proofs.YtokblgdgpnakpaaGreatW.PrintWords Go.Proofs.YtokblgdgpnakpaaGreatW.PrintLast Go.Proofs.YtokblgdgpnakpaaGreatW.PrintMore Go.Proofs.YtokblgdgpnakpaaGreat.Lm
attribute [local go_sem] bA bn bV bW aW aV bE bF
def bS.f(k:Nat)(aH:List (bf))(aA:Int)(a1:ByteArray):Option ((List (bf))×Int×ByteArray×ByteArray×Bool×Int×Bool):=if 0<(a1.size:Int)then(if(bt a1 0)≥128 then((aI.f k a1 7).bind fun AX=>((kK.f aH aA AX.1).bind fun qU=>(if AX.2.2=true then(some (aH,aA,qU.1,qU.2.1,qU.2.2.1,AX.2.1,qU.2.2.2))else(some (aH,aA,qU.1,qU.2.1,qU.2.2.1,AX.2.1,false)))))else(if(bt a1 0)≥64 then((gV.f k aH aA a1 6).bind fun mE=>(if mE.2.2.2.2=true then((dV.f k aH aA mE.1 mE.2.1 mE.2.2.1).bind fun OH=>(some (OH.1,OH.2,mE.1,mE.2.1,mE.2.2.1,mE.2.2.2.1,true)))else(some (aH,aA,mE.1,mE.2.1,mE.2.2.1,0,false))))else((cK.f (wrap64 (bt a1 0)) 16 31).bind fun a1u=>(if a1u=true then((gV.f k aH aA a1 4).bind fun AY=>(some (aH,aA,AY.1,AY.2.1,true,AY.2.2.2.1,AY.2.2.2.2)))else(some (aH,aA,(⟨#[]⟩:ByteArray),(⟨#[]⟩:ByteArray),false,0,false))))))else(none)
theorem bS.mono:∀a0 a1 a2 k,gM (bS.f k a0 a1 a2) (bS.f (k+1) a0 a1 a2):=by
 intro a0 a1 a2 k
 unfold bS.f
 have m0:=@gV.mono
 have m1:=@aI.mono
 have m2:=@dV.mono
 exact zm
def bS.T4:Bool×List (List Nat×List Nat):=(true,[([],[]),([],[]),([],[]),([],[]),([3],[3]),([4],[4]),([4,5],[4,5]),([0,4,0],[0]),([1,7,0,1,7],[1]),([2,8,0,1,2,7,8],[2]),([6,9,0,1,2,3,4,5,6,7,8,9],[6])])
def bS.B4:List Nat:=[0,0,0,0,8,24,56,25,155,415,1023]
theorem bS.tab4:jG .any (opsOf Tryz.f111 4)=bS.T4:=by kernel_rfl
theorem bS.bits4:fQ bS.T4.2 bS.B4=true:=by kernel_rfl
def bS.T9:Bool×List (List Nat×List Nat):=(true,[([],[]),([],[]),([0,1],[0,1]),([],[]),([],[]),([2,2,0,1,2],[2]),([3,5,0,1,2,3,5],[3]),([4,6,0,1,2,3,4,5,6],[4]),([7,0,1,2,3,4,5,6,7],[])])
def bS.B9:List Nat:=[0,0,3,0,0,7,47,127,255]
theorem bS.tab9:jG .any (opsOf Tryz.f111 9)=bS.T9:=by kernel_rfl
theorem bS.bits9:fQ bS.T9.2 bS.B9=true:=by kernel_rfl
def bS.T13:Bool×List (List Nat×List Nat):=(true,[([],[]),([],[]),([],[]),([],[]),([0,0],[0]),([1,4,0,1,4],[1]),([2,5,0,1,2,4,5],[2]),([3,6,0,1,2,3,4,5,6],[3])])
def bS.B13:List Nat:=[0,0,0,0,1,19,55,127]
theorem bS.tab13:jG .any (opsOf Tryz.f111 13)=bS.T13:=by kernel_rfl
theorem bS.bits13:fQ bS.T13.2 bS.B13=true:=by kernel_rfl
theorem bS.calls(k:Nat)(jw:Nat→Prop)(l8:Value)(aH:List (bf))(aA:Int)(a1:ByteArray)(r1:List (bf))(r2:Int)(r3:ByteArray)(r4:ByteArray)(r5:Bool)(r6:Int)(r7:Bool)(w0 w:World)(hB:Below w0.heap.size w0 w)(Gi:Kd.R iH 89 w w0.heap.size jw l8 aH)(h:bS.f k aH aA a1=some (r1,r2,r3,r4,r5,r6,r7)):
 Calls Tryz.prog 111 #[.agg #[l8,.int .i64 aA],.string a1] w fun e w'=>∃vM:Value,e= .returned (.tuple #[.agg #[vM,.int .i64 r2],.agg #[.string r3,.string r4,.bool r5],.int .i64 r6,.bool r7])∧Kd.R iH 89 w' w0.heap.size (fun k_=>(jw k_∨w.heap.size≤k_)) vM r1∧Below w0.heap.size w0 w'∧Kept w w' (fun _=>False):=by
 have Ab:=Tryz.underlying25
 have sN:=Tryz.underlying89
 have bH:=ah.mk (show Kd.R iH 89 w w0.heap.size (fun k_=>(jw k_∨w.heap.size≤k_)) l8 aH from Kd.R_mono Gi (fun k_ hk=>(.inl hk)))
 have HK:=ah.mk (Kept.refl w (fun _=>False))
 have HW0:=ah.mk hB.size
 have HB:=ah.mk hB
 clear hB
 have H:(if 0<(a1.size:Int)then(if(bt a1 0)≥128 then((aI.f k a1 7).bind fun AX=>((kK.f aH aA AX.1).bind fun qU=>(if AX.2.2=true then(some (aH,aA,qU.1,qU.2.1,qU.2.2.1,AX.2.1,qU.2.2.2))else(some (aH,aA,qU.1,qU.2.1,qU.2.2.1,AX.2.1,false)))))else(if(bt a1 0)≥64 then((gV.f k aH aA a1 6).bind fun mE=>(if mE.2.2.2.2=true then((dV.f k aH aA mE.1 mE.2.1 mE.2.2.1).bind fun OH=>(some (OH.1,OH.2,mE.1,mE.2.1,mE.2.2.1,mE.2.2.2.1,true)))else(some (aH,aA,mE.1,mE.2.1,mE.2.2.1,0,false))))else((cK.f (wrap64 (bt a1 0)) 16 31).bind fun a1u=>(if a1u=true then((gV.f k aH aA a1 4).bind fun AY=>(some (aH,aA,AY.1,AY.2.1,true,AY.2.2.2.1,AY.2.2.2.2)))else(some (aH,aA,(⟨#[]⟩:ByteArray),(⟨#[]⟩:ByteArray),false,0,false))))))else(none))=some (r1,r2,r3,r4,r5,r6,r7):=h
 clear h
 replace H:=sp H
 rcases H with⟨c3,H⟩|⟨c3,H⟩
 ·skip
  have c3b0:=decide_eq_true c3
  have c3b1:=decide_eq_true (by omega)
  clear c3
  have Z8:=ah.mk H
  clear H
  obtain⟨AZ,Ba,eo6⟩:=Kd.R_slice bH.out
  subst eo6
  go_enter Tryz.func111,Tryz.ntmps111
  go_upto_if 19 with(first|((with_reducible refine gd 2 rfl ?_);refine bx (N:=2) (cs:=#[.slice AZ aH.length Ba,.int .i64 aA]) (t:=25) ?_;intro wK hg w7 hbox hb;replace bH:=ah.mk (Kd.R_below (zr bH) hb);have dW:=ah.mk (hbox);have OI:=ah.mk ((by rw[hg];exact(kz (w:=w)).1:w.heap.size≤wK));replace HK:=kq hb;have aMU:=ah.mk ((by rw[hg];exact(aJ (zb HB)):w0.heap.size≤wK));replace HB:=ah.mk (ai (zb HB) hb);clear hb hbox hg)|((with_reducible refine gd 4 rfl ?_);refine bx (N:=4) (cs:=#[.slice none 0 0,.int .i64 0]) (t:=25) ?_;intro dZ hg w8 hbox hb;replace bH:=ah.mk (Kd.R_below (zr bH) hb);have dH:=ah.mk (hbox);have OJ:=ah.mk ((by rw[hg];exact(kz (w:=w)).1:w.heap.size≤dZ));replace HK:=kq hb;have aMV:=ah.mk ((by rw[hg];exact(aJ (zb HB)):w0.heap.size≤dZ));replace HB:=ah.mk (ai (zb HB) hb);obtain⟨dS,jk⟩:=nb dW hg;replace dW:=kb dW hb;clear hb hbox hg)|((with_reducible refine gd 5 rfl ?_);refine bx (N:=5) (cs:=#[.string (⟨#[]⟩:ByteArray),.string (⟨#[]⟩:ByteArray),.bool false]) (t:=89) ?_;intro bU hg w9 hbox hb;replace bH:=ah.mk (Kd.R_below (Kd.R_elderB (zr bH) bU (Nat.le_of_eq hg.symm)) hb);have dD:=ah.mk (hbox);have OL:=ah.mk ((by rw[hg];exact(kz (w:=w)).1:w.heap.size≤bU));replace HK:=kq hb;have aMW:=ah.mk ((by rw[hg];exact(aJ (zb HB)):w0.heap.size≤bU));replace HB:=ah.mk (ai (zb HB) hb);obtain⟨bY,gP⟩:=nb dW hg;replace dW:=kb dW hb;obtain⟨fB,fD⟩:=nb dH hg;replace dH:=kb dH hb;clear hb hbox hg;have p4:0≤(0:Int):=(by omega);have q4:0<a1.size:=(by have:(0:Int)<(a1.size:Int):=of_decide_eq_true za;omega);have hx4:∀h:0<a1.size,((a1[0]'h).toNat:Int)=bt a1 0:=fF a1 0;clear p4;have qi4:(0<(a1.size:Int))=True:=eq_true (of_decide_eq_true za);replace q4:=eq_true q4))
  (try simp only[Act.put,s1,s2,s3])
  have H:=Z8.out
  clear Z8
  by_cases c10:(bt a1 0)≥128
  ·rw[if_pos c10]at H
   have c10b0:=decide_eq_true c10
   clear c10
   (first|rw[c10b0]|rw[c10b1]|rw[c10b2]|(simp only[gI,iB];rw[c10b0])|skip)
   obtain⟨⟨XK,aod,aDI⟩,A11,H⟩:=ob H
   (try dsimp only at H)
   obtain⟨⟨rG,rH,rJ,aoe⟩,Xo,H⟩:=ob H
   (try dsimp only at H)
   by_cases c13:aDI=true
   ·subst c13
    rw[if_pos rfl]at H
    simp only[Option.some.injEq,Prod.mk.injEq]at H
    obtain⟨rfl,rfl,rfl,rfl,rfl,rfl,rfl⟩:=H
    try go_wp2_with (first|((with_reducible refine gq 116 rfl ?_);refine gl (some 25) Tryz.func116 #[.string a1,.int .i64 7] ?_;(with_reducible refine(aI.calls k a1 7 XK aod true _ A11.out).mono ?_);rintro e w' ⟨rfl,⟨nd,rfl⟩⟩;refine⟨_,rfl,?_⟩;(try(rw[uH w9];generalize iI:World.drewN w9 _=w9;have tQ:ah (Kd.R iH 89 w9 w0.heap.size (fun k_=>(jw k_∨w.heap.size≤k_)∧k_≠bU) (.slice AZ aH.length Ba) aH):=⟨by rw[←iI];exact(zr bH)⟩;have tT:ah (w9.heap[wK]?=some (.cells #[.slice AZ aH.length Ba,.int .i64 aA] 25 (0,0))):=⟨by rw[←iI];exact(zk dW)⟩;have vz:ah (w9.heap[dZ]?=some (.cells #[.slice none 0 0,.int .i64 0] 25 (0,0))):=⟨by rw[←iI];exact(zk dH)⟩;have vB:ah (w9.heap[bU]?=some (.cells #[.string (⟨#[]⟩:ByteArray),.string (⟨#[]⟩:ByteArray),.bool false] 89 (0,0))):=⟨by rw[←iI];exact(zk dD)⟩;have xK:ah (Kept w w9 (fun _=>False)):=⟨by rw[←iI];exact(by repeat(first|(with_reducible first|exact HK.out|apply Kept.alloc|apply Kept.drewN|apply Kept.drew|refine Kept.setCell ?_ (.inr OI.out) _|refine Kept.setCell ?_ (.inr OJ.out) _|refine Kept.setCell ?_ (.inr OL.out) _)|exact HK.out))⟩;have xL:ah (Below w0.heap.size w0 w9):=⟨by rw[←iI];exact(zb HB)⟩;clear bH dW dH dD HK HB iI;have bH:=tQ;have dW:=tT;have dH:=vz;have dD:=vB;have HK:=xK;have HB:=xL;clear tQ tT vz vB xK xL));have an9:=dS.out;have ana:=jk.out;have aof:=bY.out;have aog:=gP.out;obtain⟨EW,EX,EY,EZ⟩:=c2 dW)|((with_reducible refine gq 117 rfl ?_);refine gl (some 32) Tryz.func117 #[.agg #[.slice AZ aH.length Ba,.int .i64 aA],.int .i64 XK] ?_;(with_reducible refine(kK.calls _ _ aH aA XK rG rH rJ aoe _ ?aN ?aQ Xo.out).mono ?_);(case aN=>exact zc (Kd.R_reads' bH.out).2.2);(case aQ=>exact(Kd.R_reads' bH.out).2.1);rintro e w17 ⟨rfl,hb⟩;refine⟨_,rfl,?_⟩;replace bH:=ah.mk (Kd.R_below (zr bH) hb);replace dW:=kb dW hb;replace dH:=kb dH hb;replace dD:=kb dD hb;replace HK:=kq hb;replace HB:=ah.mk (ai (zb HB) hb);(try clear hb))|((with_reducible refine gd 11 rfl ?_);refine bx (N:=11) (cs:=#[.string (⟨#[]⟩:ByteArray),.string (⟨#[]⟩:ByteArray),.bool false]) (t:=89) ?_;intro fG hg UM hbox hb;replace bH:=ah.mk (Kd.R_below (Kd.R_elderB (zr bH) fG (Nat.le_of_eq hg.symm)) hb);have pR:=ah.mk (hbox);have aoh:=ah.mk ((by rw[hg];exact(kz (w:=w)).1:w.heap.size≤fG));replace HK:=kq hb;have aoi:=ah.mk ((by rw[hg];exact(aJ (zb HB)):w0.heap.size≤fG));replace HB:=ah.mk (ai (zb HB) hb);obtain⟨Ce,Cf⟩:=nb dW hg;replace dW:=kb dW hb;obtain⟨oQ,ic⟩:=nb dH hg;replace dH:=kb dH hb;obtain⟨mR,fq⟩:=nb dD hg;replace dD:=kb dD hb;clear hb hbox hg;have aoj:=Cf.out;have aok:=Ce.out;have aMX:=ic.out;have aMY:=oQ.out;have adf:=fq.out;have adg:=mR.out;obtain⟨U6,U7,a5e,U8,U9,a5f⟩:=c3 pR))
    have tQ:ah (Kd.R iH 89 (((UM.setCell ⟨fG,0,none⟩ (.string rG)).setCell ⟨fG,1,none⟩ (.string rH)).setCell ⟨fG,2,none⟩ (.bool rJ)) w0.heap.size (fun k_=>(jw k_∨w.heap.size≤k_)∧k_≠bU∧k_≠fG) (.slice AZ aH.length Ba) aH):=⟨(Kd.R_mono (qj (Kd.R_mono bH.out (fun k_ hk=>(⟨hk,hk.2⟩:_∧k_≠fG)))) (fun _ hk=>⟨hk.1.1.1,⟨hk.1.1.2,hk.1.2⟩⟩))⟩
    have tT:ah ((((UM.setCell ⟨fG,0,none⟩ (.string rG)).setCell ⟨fG,1,none⟩ (.string rH)).setCell ⟨fG,2,none⟩ (.bool rJ)).heap[wK]?=some (.cells #[.slice AZ aH.length Ba,.int .i64 aA] 25 (0,0))):=⟨zp dW⟩
    have vz:ah ((((UM.setCell ⟨fG,0,none⟩ (.string rG)).setCell ⟨fG,1,none⟩ (.string rH)).setCell ⟨fG,2,none⟩ (.bool rJ)).heap[dZ]?=some (.cells #[.slice none 0 0,.int .i64 0] 25 (0,0))):=⟨zp dH⟩
    have vB:ah ((((UM.setCell ⟨fG,0,none⟩ (.string rG)).setCell ⟨fG,1,none⟩ (.string rH)).setCell ⟨fG,2,none⟩ (.bool rJ)).heap[bU]?=some (.cells #[.string (⟨#[]⟩:ByteArray),.string (⟨#[]⟩:ByteArray),.bool false] 89 (0,0))):=⟨zp dD⟩
    have xK:ah ((((UM.setCell ⟨fG,0,none⟩ (.string rG)).setCell ⟨fG,1,none⟩ (.string rH)).setCell ⟨fG,2,none⟩ (.bool rJ)).heap[fG]?=some (.cells #[.string rG,.string rH,.bool rJ] 89 (0,0))):=⟨zp pR⟩
    have xL:ah (Kept w (((UM.setCell ⟨fG,0,none⟩ (.string rG)).setCell ⟨fG,1,none⟩ (.string rH)).setCell ⟨fG,2,none⟩ (.bool rJ)) (fun _=>False)):=⟨kz⟩
    have Ho:ah (Below w0.heap.size w0 (((UM.setCell ⟨fG,0,none⟩ (.string rG)).setCell ⟨fG,1,none⟩ (.string rH)).setCell ⟨fG,2,none⟩ (.bool rJ))):=⟨zb HB⟩
    (try clear bH)
    (try clear dW)
    (try clear dH)
    (try clear dD)
    (try clear pR)
    (try clear HK)
    (try clear HB)
    generalize(((UM.setCell ⟨fG,0,none⟩ (.string rG)).setCell ⟨fG,1,none⟩ (.string rH)).setCell ⟨fG,2,none⟩ (.bool rJ))=w23 at tQ tT vz vB xK xL Ho ⊢
    have bH:=tQ
    have dW:=tT
    have dH:=vz
    have dD:=vB
    have pR:=xK
    have HK:=xL
    have HB:=Ho
    clear tQ tT vz vB xK xL Ho
    replace bH:=ah.mk (Kd.R_drew bH.out)
    replace dW:=ah.mk (dw dW.out)
    replace dH:=ah.mk (dw dH.out)
    replace dD:=ah.mk (dw dD.out)
    replace pR:=ah.mk (dw pR.out)
    replace HK:=ah.mk (Kept.drew HK.out)
    replace HB:=ah.mk (dF HB.out)
    refine st 11 (an (b2 dW) (b3 pR)) (fun hHeld=>?_);refine bK bS.tab4 bS.bits4 (fun HT_ HW_=>?_)
    generalize w23.drew=w24 at bH dW dH dD pR HK HB hHeld ⊢
    refine pu 2 (some 37) (bm 11 4) rfl rfl ?_
    refine pu 3 (some 38) (bm 11 12) rfl rfl ?_
    refine pu 4 (some 39) (bm 11 28) rfl rfl ?_
    refine pu 5 (some 40) (bm 11 60) rfl rfl ?_
    refine pu 6 (some 41) (bm 11 124) rfl rfl ?_
    refine tk 0 (some 35) (bm 11 125) rfl rfl hHeld ?_
    refine tk 1 (some 36) (bm 11 127) rfl rfl hHeld ?_
    refine iN (i:=7) (N:=none) (bm 11 255) rfl rfl (eG HT_.out (by kernel_rfl)) (by decide) (fun K hK=>?_)
    have aRw:w24.cell? ⟨dZ,0,none⟩=some (.slice none 0 0):=(ak dH.out 0).trans rfl
    have aMZ:=aj dH.out 0
    have avW:=dS.out
    have avX:=fD.out
    have avY:=ic.out
    have avZ:=jk.out
    have aw0:=fB.out
    have aw1:=oQ.out
    have aRx:w24.cell? ⟨dZ,1,none⟩=some (.int .i64 0):=(ak dH.out 1).trans rfl
    have aN0:=aj dH.out 1
    have aw2:=dS.out
    have aw3:=fD.out
    have aw4:=ic.out
    have aw5:=jk.out
    have aw6:=fB.out
    have aw7:=oQ.out
    refine oF (w1:=?_) (by rfl) rfl ?_ ?_
    rotate_left
    ·go_simp
     rfl
    refine hK.out _ _ (an ⟨((cell_far (p:=⟨dZ,_,none⟩) dS.out _).trans (((cell_far (p:=⟨dZ,_,none⟩) dS.out _).trans (hHeld.1.1)))),((cell_far (p:=⟨dZ,_,none⟩) dS.out _).trans (((cell_far (p:=⟨dZ,_,none⟩) dS.out _).trans (hHeld.1.2))))⟩ ⟨((cell_far (p:=⟨dZ,_,none⟩) ic.out _).trans (((cell_far (p:=⟨dZ,_,none⟩) ic.out _).trans (hHeld.2.1)))),((cell_far (p:=⟨dZ,_,none⟩) ic.out _).trans (((cell_far (p:=⟨dZ,_,none⟩) ic.out _).trans (hHeld.2.2.1)))),((cell_far (p:=⟨dZ,_,none⟩) ic.out _).trans (((cell_far (p:=⟨dZ,_,none⟩) ic.out _).trans (hHeld.2.2.2))))⟩) (fun hHeld=>?_)
    clear hK K
    refine iN (i:=8) (N:=none) (bm 11 511) rfl rfl (eG HT_.out (by kernel_rfl)) (by decide) (fun K hK=>?_)
    have aRy:w24.cell? ⟨bU,0,none⟩=some (.string (⟨#[]⟩:ByteArray)):=(ak dD.out 0).trans rfl
    have aN1:=aj dD.out 0
    have aw8:=bY.out
    have aw9:=fB.out
    have awc:=fq.out
    have awd:=gP.out
    have awe:=fD.out
    have awf:=mR.out
    have aDJ:w24.cell? ⟨bU,1,none⟩=some (.string (⟨#[]⟩:ByteArray)):=(ak dD.out 1).trans rfl
    have aol:=aj dD.out 1
    have a9y:=bY.out
    have awg:=fB.out
    have awh:=fq.out
    have a9z:=gP.out
    have awi:=fD.out
    have awj:=mR.out
    have agF:w24.cell? ⟨bU,2,none⟩=some (.bool false):=(ak dD.out 2).trans rfl
    have a1v:=aj dD.out 2
    have L6:=bY.out
    have a9A:=fB.out
    have awk:=fq.out
    have L8:=gP.out
    have a9B:=fD.out
    have awl:=mR.out
    refine oF (w1:=?_) (by rfl) rfl ?_ ?_
    rotate_left
    ·go_simp
     rfl
    refine hK.out _ _ (an ⟨((cell_far (p:=⟨bU,_,none⟩) bY.out _).trans (((cell_far (p:=⟨bU,_,none⟩) bY.out _).trans (((cell_far (p:=⟨bU,_,none⟩) bY.out _).trans (hHeld.1.1)))))),((cell_far (p:=⟨bU,_,none⟩) bY.out _).trans (((cell_far (p:=⟨bU,_,none⟩) bY.out _).trans (((cell_far (p:=⟨bU,_,none⟩) bY.out _).trans (hHeld.1.2))))))⟩ ⟨((cell_far (p:=⟨bU,_,none⟩) fq.out _).trans (((cell_far (p:=⟨bU,_,none⟩) fq.out _).trans (((cell_far (p:=⟨bU,_,none⟩) fq.out _).trans (hHeld.2.1)))))),((cell_far (p:=⟨bU,_,none⟩) fq.out _).trans (((cell_far (p:=⟨bU,_,none⟩) fq.out _).trans (((cell_far (p:=⟨bU,_,none⟩) fq.out _).trans (hHeld.2.2.1)))))),((cell_far (p:=⟨bU,_,none⟩) fq.out _).trans (((cell_far (p:=⟨bU,_,none⟩) fq.out _).trans (((cell_far (p:=⟨bU,_,none⟩) fq.out _).trans (hHeld.2.2.2))))))⟩) (fun hHeld=>?_)
    clear hK K
    refine pu 9 (some 6) (bm 11 1023) rfl rfl ?_
    refine pu 10 (some 7) (bm 11 2047) rfl rfl ?_
    refine lq (jC HT_.out (by kernel_rfl)) ?_
    try go_wp2
    refine bodyPost_ret (mJ (rs:=[.cell 4 25,.cell 5 89,.tmp 6,.tmp 7]) rfl (by simp) (.cell dZ 25 #[.slice AZ aH.length Ba,.int .i64 aA] (0,0) _ rfl (zp dH) Tryz.underlying25 rfl (by kernel_rfl) (.cell bU 89 #[.string rG,.string rH,.bool rJ] (0,0) _ rfl (zp dD) Tryz.underlying89 rfl (by kernel_rfl) (.tmp (.tmp .nil))))) rfl ?_
    exact⟨_,ze,(Kd.R_mono (qj (Kd.R_mono (Kd.R_types bH.out dH.out (by decide)) (fun k_ hk=>(⟨hk,hk.1.2.1⟩:_∧k_≠bU)))) (fun _ hk=>hk.1.1.1)),zb HB,kz⟩
   ·replace c13:=Bool.eq_false_iff.mpr c13
    subst c13
    rw[if_neg (show ¬(false=true) by decide)]at H
    simp only[Option.some.injEq,Prod.mk.injEq]at H
    obtain⟨rfl,rfl,rfl,rfl,rfl,rfl,rfl⟩:=H
    try go_wp2_with (first|((with_reducible refine gq 116 rfl ?_);refine gl (some 25) Tryz.func116 #[.string a1,.int .i64 7] ?_;(with_reducible refine(aI.calls k a1 7 XK aod false _ A11.out).mono ?_);rintro e w' ⟨rfl,⟨nd,rfl⟩⟩;refine⟨_,rfl,?_⟩;(try(rw[uH w9];generalize iI:World.drewN w9 _=w9;have tQ:ah (Kd.R iH 89 w9 w0.heap.size (fun k_=>(jw k_∨w.heap.size≤k_)∧k_≠bU) (.slice AZ aH.length Ba) aH):=⟨by rw[←iI];exact(zr bH)⟩;have tT:ah (w9.heap[wK]?=some (.cells #[.slice AZ aH.length Ba,.int .i64 aA] 25 (0,0))):=⟨by rw[←iI];exact(zk dW)⟩;have vz:ah (w9.heap[dZ]?=some (.cells #[.slice none 0 0,.int .i64 0] 25 (0,0))):=⟨by rw[←iI];exact(zk dH)⟩;have vB:ah (w9.heap[bU]?=some (.cells #[.string (⟨#[]⟩:ByteArray),.string (⟨#[]⟩:ByteArray),.bool false] 89 (0,0))):=⟨by rw[←iI];exact(zk dD)⟩;have xK:ah (Kept w w9 (fun _=>False)):=⟨by rw[←iI];exact(by repeat(first|(with_reducible first|exact HK.out|apply Kept.alloc|apply Kept.drewN|apply Kept.drew|refine Kept.setCell ?_ (.inr OI.out) _|refine Kept.setCell ?_ (.inr OJ.out) _|refine Kept.setCell ?_ (.inr OL.out) _)|exact HK.out))⟩;have xL:ah (Below w0.heap.size w0 w9):=⟨by rw[←iI];exact(zb HB)⟩;clear bH dW dH dD HK HB iI;have bH:=tQ;have dW:=tT;have dH:=vz;have dD:=vB;have HK:=xK;have HB:=xL;clear tQ tT vz vB xK xL));have acE:=dS.out;have acF:=jk.out;have aN2:=bY.out;have aN3:=gP.out;obtain⟨awm,awn,awo,awp⟩:=c2 dW)|((with_reducible refine gq 117 rfl ?_);refine gl (some 32) Tryz.func117 #[.agg #[.slice AZ aH.length Ba,.int .i64 aA],.int .i64 XK] ?_;(with_reducible refine(kK.calls _ _ aH aA XK rG rH rJ aoe _ ?aN ?aQ Xo.out).mono ?_);(case aN=>exact zc (Kd.R_reads' bH.out).2.2);(case aQ=>exact(Kd.R_reads' bH.out).2.1);rintro e w33 ⟨rfl,hb⟩;refine⟨_,rfl,?_⟩;replace bH:=ah.mk (Kd.R_below (zr bH) hb);replace dW:=kb dW hb;replace dH:=kb dH hb;replace dD:=kb dD hb;replace HK:=kq hb;replace HB:=ah.mk (ai (zb HB) hb);(try clear hb))|((with_reducible refine gd 11 rfl ?_);refine bx (N:=11) (cs:=#[.string (⟨#[]⟩:ByteArray),.string (⟨#[]⟩:ByteArray),.bool false]) (t:=89) ?_;intro fG hg Mw hbox hb;replace bH:=ah.mk (Kd.R_below (Kd.R_elderB (zr bH) fG (Nat.le_of_eq hg.symm)) hb);have pR:=ah.mk (hbox);have aoh:=ah.mk ((by rw[hg];exact(kz (w:=w)).1:w.heap.size≤fG));replace HK:=kq hb;have aoi:=ah.mk ((by rw[hg];exact(aJ (zb HB)):w0.heap.size≤fG));replace HB:=ah.mk (ai (zb HB) hb);obtain⟨Ce,Cf⟩:=nb dW hg;replace dW:=kb dW hb;obtain⟨oQ,ic⟩:=nb dH hg;replace dH:=kb dH hb;obtain⟨mR,fq⟩:=nb dD hg;replace dD:=kb dD hb;clear hb hbox hg;have aom:=Cf.out;have aon:=Ce.out;have a1w:=ic.out;have a1x:=oQ.out;have Vp:=fq.out;have Vq:=mR.out;obtain⟨zT,zU,zV,zX,zY,zZ⟩:=c3 pR))
    have tQ:ah (Kd.R iH 89 (((Mw.setCell ⟨fG,0,none⟩ (.string rG)).setCell ⟨fG,1,none⟩ (.string rH)).setCell ⟨fG,2,none⟩ (.bool rJ)) w0.heap.size (fun k_=>(jw k_∨w.heap.size≤k_)∧k_≠bU∧k_≠fG) (.slice AZ aH.length Ba) aH):=⟨(Kd.R_mono (qj (Kd.R_mono bH.out (fun k_ hk=>(⟨hk,hk.2⟩:_∧k_≠fG)))) (fun _ hk=>⟨hk.1.1.1,⟨hk.1.1.2,hk.1.2⟩⟩))⟩
    have tT:ah ((((Mw.setCell ⟨fG,0,none⟩ (.string rG)).setCell ⟨fG,1,none⟩ (.string rH)).setCell ⟨fG,2,none⟩ (.bool rJ)).heap[wK]?=some (.cells #[.slice AZ aH.length Ba,.int .i64 aA] 25 (0,0))):=⟨zp dW⟩
    have vz:ah ((((Mw.setCell ⟨fG,0,none⟩ (.string rG)).setCell ⟨fG,1,none⟩ (.string rH)).setCell ⟨fG,2,none⟩ (.bool rJ)).heap[dZ]?=some (.cells #[.slice none 0 0,.int .i64 0] 25 (0,0))):=⟨zp dH⟩
    have vB:ah ((((Mw.setCell ⟨fG,0,none⟩ (.string rG)).setCell ⟨fG,1,none⟩ (.string rH)).setCell ⟨fG,2,none⟩ (.bool rJ)).heap[bU]?=some (.cells #[.string (⟨#[]⟩:ByteArray),.string (⟨#[]⟩:ByteArray),.bool false] 89 (0,0))):=⟨zp dD⟩
    have xK:ah ((((Mw.setCell ⟨fG,0,none⟩ (.string rG)).setCell ⟨fG,1,none⟩ (.string rH)).setCell ⟨fG,2,none⟩ (.bool rJ)).heap[fG]?=some (.cells #[.string rG,.string rH,.bool rJ] 89 (0,0))):=⟨zp pR⟩
    have xL:ah (Kept w (((Mw.setCell ⟨fG,0,none⟩ (.string rG)).setCell ⟨fG,1,none⟩ (.string rH)).setCell ⟨fG,2,none⟩ (.bool rJ)) (fun _=>False)):=⟨kz⟩
    have Ho:ah (Below w0.heap.size w0 (((Mw.setCell ⟨fG,0,none⟩ (.string rG)).setCell ⟨fG,1,none⟩ (.string rH)).setCell ⟨fG,2,none⟩ (.bool rJ))):=⟨zb HB⟩
    (try clear bH)
    (try clear dW)
    (try clear dH)
    (try clear dD)
    (try clear pR)
    (try clear HK)
    (try clear HB)
    generalize(((Mw.setCell ⟨fG,0,none⟩ (.string rG)).setCell ⟨fG,1,none⟩ (.string rH)).setCell ⟨fG,2,none⟩ (.bool rJ))=w39 at tQ tT vz vB xK xL Ho ⊢
    have bH:=tQ
    have dW:=tT
    have dH:=vz
    have dD:=vB
    have pR:=xK
    have HK:=xL
    have HB:=Ho
    clear tQ tT vz vB xK xL Ho
    replace bH:=ah.mk (Kd.R_drew bH.out)
    replace dW:=ah.mk (dw dW.out)
    replace dH:=ah.mk (dw dH.out)
    replace dD:=ah.mk (dw dD.out)
    replace pR:=ah.mk (dw pR.out)
    replace HK:=ah.mk (Kept.drew HK.out)
    replace HB:=ah.mk (dF HB.out)
    refine st 11 (an (b2 dW) (b3 pR)) (fun hHeld=>?_);refine bK bS.tab4 bS.bits4 (fun HT_ HW_=>?_)
    generalize w39.drew=w40 at bH dW dH dD pR HK HB hHeld ⊢
    refine pu 2 (some 37) (bm 11 4) rfl rfl ?_
    refine pu 3 (some 38) (bm 11 12) rfl rfl ?_
    refine pu 4 (some 39) (bm 11 28) rfl rfl ?_
    refine pv 5 (some 40) (bm 11 60) rfl rfl ?_
    refine pu 6 (some 41) (bm 11 124) rfl rfl ?_
    refine tk 0 (some 35) (bm 11 125) rfl rfl hHeld ?_
    refine tk 1 (some 36) (bm 11 127) rfl rfl hHeld ?_
    refine iN (i:=7) (N:=none) (bm 11 255) rfl rfl (eG HT_.out (by kernel_rfl)) (by decide) (fun K hK=>?_)
    have aDK:w40.cell? ⟨dZ,0,none⟩=some (.slice none 0 0):=(ak dH.out 0).trans rfl
    have aoo:=aj dH.out 0
    have a9C:=dS.out
    have awq:=fD.out
    have awr:=ic.out
    have a9D:=jk.out
    have aws:=fB.out
    have awt:=oQ.out
    have aRA:w40.cell? ⟨dZ,1,none⟩=some (.int .i64 0):=(ak dH.out 1).trans rfl
    have aN4:=aj dH.out 1
    have awu:=dS.out
    have awv:=fD.out
    have aww:=ic.out
    have awx:=jk.out
    have awy:=fB.out
    have awz:=oQ.out
    refine oF (w1:=?_) (by rfl) rfl ?_ ?_
    rotate_left
    ·go_simp
     rfl
    refine hK.out _ _ (an ⟨((cell_far (p:=⟨dZ,_,none⟩) dS.out _).trans (((cell_far (p:=⟨dZ,_,none⟩) dS.out _).trans (hHeld.1.1)))),((cell_far (p:=⟨dZ,_,none⟩) dS.out _).trans (((cell_far (p:=⟨dZ,_,none⟩) dS.out _).trans (hHeld.1.2))))⟩ ⟨((cell_far (p:=⟨dZ,_,none⟩) ic.out _).trans (((cell_far (p:=⟨dZ,_,none⟩) ic.out _).trans (hHeld.2.1)))),((cell_far (p:=⟨dZ,_,none⟩) ic.out _).trans (((cell_far (p:=⟨dZ,_,none⟩) ic.out _).trans (hHeld.2.2.1)))),((cell_far (p:=⟨dZ,_,none⟩) ic.out _).trans (((cell_far (p:=⟨dZ,_,none⟩) ic.out _).trans (hHeld.2.2.2))))⟩) (fun hHeld=>?_)
    clear hK K
    refine iN (i:=8) (N:=none) (bm 11 511) rfl rfl (eG HT_.out (by kernel_rfl)) (by decide) (fun K hK=>?_)
    have aRB:w40.cell? ⟨bU,0,none⟩=some (.string (⟨#[]⟩:ByteArray)):=(ak dD.out 0).trans rfl
    have aN5:=aj dD.out 0
    have awC:=bY.out
    have awD:=fB.out
    have awE:=fq.out
    have awF:=gP.out
    have awG:=fD.out
    have awH:=mR.out
    have aRC:w40.cell? ⟨bU,1,none⟩=some (.string (⟨#[]⟩:ByteArray)):=(ak dD.out 1).trans rfl
    have aN6:=aj dD.out 1
    have awI:=bY.out
    have awJ:=fB.out
    have awK:=fq.out
    have awL:=gP.out
    have awM:=fD.out
    have awN:=mR.out
    have aRD:w40.cell? ⟨bU,2,none⟩=some (.bool false):=(ak dD.out 2).trans rfl
    have aN7:=aj dD.out 2
    have awO:=bY.out
    have awP:=fB.out
    have awQ:=fq.out
    have awR:=gP.out
    have awS:=fD.out
    have awT:=mR.out
    refine oF (w1:=?_) (by rfl) rfl ?_ ?_
    rotate_left
    ·go_simp
     rfl
    refine hK.out _ _ (an ⟨((cell_far (p:=⟨bU,_,none⟩) bY.out _).trans (((cell_far (p:=⟨bU,_,none⟩) bY.out _).trans (((cell_far (p:=⟨bU,_,none⟩) bY.out _).trans (hHeld.1.1)))))),((cell_far (p:=⟨bU,_,none⟩) bY.out _).trans (((cell_far (p:=⟨bU,_,none⟩) bY.out _).trans (((cell_far (p:=⟨bU,_,none⟩) bY.out _).trans (hHeld.1.2))))))⟩ ⟨((cell_far (p:=⟨bU,_,none⟩) fq.out _).trans (((cell_far (p:=⟨bU,_,none⟩) fq.out _).trans (((cell_far (p:=⟨bU,_,none⟩) fq.out _).trans (hHeld.2.1)))))),((cell_far (p:=⟨bU,_,none⟩) fq.out _).trans (((cell_far (p:=⟨bU,_,none⟩) fq.out _).trans (((cell_far (p:=⟨bU,_,none⟩) fq.out _).trans (hHeld.2.2.1)))))),((cell_far (p:=⟨bU,_,none⟩) fq.out _).trans (((cell_far (p:=⟨bU,_,none⟩) fq.out _).trans (((cell_far (p:=⟨bU,_,none⟩) fq.out _).trans (hHeld.2.2.2))))))⟩) (fun hHeld=>?_)
    clear hK K
    refine pu 9 (some 6) (bm 11 1023) rfl rfl ?_
    refine pu 10 (some 7) (bm 11 2047) rfl rfl ?_
    refine lq (jC HT_.out (by kernel_rfl)) ?_
    try go_wp2
    refine bodyPost_ret (mJ (rs:=[.cell 4 25,.cell 5 89,.tmp 6,.tmp 7]) rfl (by simp) (.cell dZ 25 #[.slice AZ aH.length Ba,.int .i64 aA] (0,0) _ rfl (zp dH) Tryz.underlying25 rfl (by kernel_rfl) (.cell bU 89 #[.string rG,.string rH,.bool rJ] (0,0) _ rfl (zp dD) Tryz.underlying89 rfl (by kernel_rfl) (.tmp (.tmp .nil))))) rfl ?_
    exact⟨_,ze,(Kd.R_mono (qj (Kd.R_mono (Kd.R_types bH.out dH.out (by decide)) (fun k_ hk=>(⟨hk,hk.1.2.1⟩:_∧k_≠bU)))) (fun _ hk=>hk.1.1.1)),zb HB,kz⟩
  ·rw[if_neg c10]at H
   have c10b0:=decide_eq_false c10
   clear c10
   (first|rw[c10b0]|rw[c10b1]|rw[c10b2]|(simp only[gI,iB];rw[c10b0])|skip)
   by_cases c47:(bt a1 0)≥64
   ·rw[if_pos c47]at H
    have c47b0:=decide_eq_true c47
    clear c47
    obtain⟨⟨qV,qW,qX,aDL,aop⟩,A48,H⟩:=ob H
    (try dsimp only at H)
    have aoq:=ah.mk H
    clear H
    have p46:0≤(0:Int):=(by omega)
    have QA:0<a1.size:=(by have:(0:Int)<(a1.size:Int):=of_decide_eq_true za;omega)
    have aor:∀h:0<a1.size,((a1[0]'h).toNat:Int)=bt a1 0:=fF a1 0
    clear p46
    have aos:(0<(a1.size:Int))=True:=eq_true (of_decide_eq_true za)
    replace QA:=eq_true QA
    have aN8:=dS.out
    have aN9:=jk.out
    have aot:=bY.out
    have aou:=gP.out
    obtain⟨a9E,a9F,a9G,a9H⟩:=c2 dW
    go_upto_if 54 with(first|((with_reducible refine gq 118 rfl ?_);refine gl (some 49) Tryz.func118 #[.agg #[.slice AZ aH.length Ba,.int .i64 aA],.string a1,.int .i64 6] ?_;(with_reducible refine(gV.calls k _ _ aH aA a1 6 qV qW qX aDL aop _ ?aN ?aQ A48.out).mono ?_);(case aN=>exact zc (Kd.R_reads' bH.out).2.2);(case aQ=>exact(Kd.R_reads' bH.out).2.1);rintro e w53 ⟨rfl,hb⟩;refine⟨_,rfl,?_⟩;replace bH:=ah.mk (Kd.R_below (zr bH) hb);replace dW:=kb dW hb;replace dH:=kb dH hb;replace dD:=kb dD hb;replace HK:=kq hb;replace HB:=ah.mk (ai (zb HB) hb);(try clear hb))|((with_reducible refine gd 13 rfl ?_);refine bx (N:=13) (cs:=#[.string (⟨#[]⟩:ByteArray),.string (⟨#[]⟩:ByteArray),.bool false]) (t:=89) ?_;intro fT hg OM hbox hb;replace bH:=ah.mk (Kd.R_below (Kd.R_elderB (zr bH) fT (Nat.le_of_eq hg.symm)) hb);have nW:=ah.mk (hbox);have aov:=ah.mk ((by rw[hg];exact(kz (w:=w)).1:w.heap.size≤fT));replace HK:=kq hb;have aNa:=ah.mk ((by rw[hg];exact(aJ (zb HB)):w0.heap.size≤fT));replace HB:=ah.mk (ai (zb HB) hb);obtain⟨XL,XM⟩:=nb dW hg;replace dW:=kb dW hb;obtain⟨tX,iJ⟩:=nb dH hg;replace dH:=kb dH hb;obtain⟨oU,fJ⟩:=nb dD hg;replace dD:=kb dD hb;clear hb hbox hg;have ao5:=XM.out;have ao6:=XL.out;have ao7:=iJ.out;have ao8:=tX.out;have adj:=fJ.out;have adk:=oU.out;obtain⟨VH,VI,a9s,VJ,VK,a9t⟩:=c3 nW))
    (try simp only[Act.put,s1,s2,s3])
    have H:=aoq.out
    clear aoq
    by_cases c59:aop=true
    ·subst c59
     rw[if_pos rfl]at H
     obtain⟨⟨aow,aox⟩,A60,H⟩:=ob H
     (try dsimp only at H)
     simp only[Option.some.injEq,Prod.mk.injEq]at H
     obtain⟨rfl,rfl,rfl,rfl,rfl,rfl,rfl⟩:=H
     try go_wp2
     have tQ:ah (Kd.R iH 89 (((OM.setCell ⟨fT,0,none⟩ (.string qV)).setCell ⟨fT,1,none⟩ (.string qW)).setCell ⟨fT,2,none⟩ (.bool qX)) w0.heap.size (fun k_=>(jw k_∨w.heap.size≤k_)∧k_≠bU∧k_≠fT) (.slice AZ aH.length Ba) aH):=⟨(Kd.R_mono (qj (Kd.R_mono bH.out (fun k_ hk=>(⟨hk,hk.2⟩:_∧k_≠fT)))) (fun _ hk=>⟨hk.1.1.1,⟨hk.1.1.2,hk.1.2⟩⟩))⟩
     have tT:ah ((((OM.setCell ⟨fT,0,none⟩ (.string qV)).setCell ⟨fT,1,none⟩ (.string qW)).setCell ⟨fT,2,none⟩ (.bool qX)).heap[wK]?=some (.cells #[.slice AZ aH.length Ba,.int .i64 aA] 25 (0,0))):=⟨zp dW⟩
     have vz:ah ((((OM.setCell ⟨fT,0,none⟩ (.string qV)).setCell ⟨fT,1,none⟩ (.string qW)).setCell ⟨fT,2,none⟩ (.bool qX)).heap[dZ]?=some (.cells #[.slice none 0 0,.int .i64 0] 25 (0,0))):=⟨zp dH⟩
     have vB:ah ((((OM.setCell ⟨fT,0,none⟩ (.string qV)).setCell ⟨fT,1,none⟩ (.string qW)).setCell ⟨fT,2,none⟩ (.bool qX)).heap[bU]?=some (.cells #[.string (⟨#[]⟩:ByteArray),.string (⟨#[]⟩:ByteArray),.bool false] 89 (0,0))):=⟨zp dD⟩
     have xK:ah ((((OM.setCell ⟨fT,0,none⟩ (.string qV)).setCell ⟨fT,1,none⟩ (.string qW)).setCell ⟨fT,2,none⟩ (.bool qX)).heap[fT]?=some (.cells #[.string qV,.string qW,.bool qX] 89 (0,0))):=⟨zp nW⟩
     have xL:ah (Kept w (((OM.setCell ⟨fT,0,none⟩ (.string qV)).setCell ⟨fT,1,none⟩ (.string qW)).setCell ⟨fT,2,none⟩ (.bool qX)) (fun _=>False)):=⟨kz⟩
     have Ho:ah (Below w0.heap.size w0 (((OM.setCell ⟨fT,0,none⟩ (.string qV)).setCell ⟨fT,1,none⟩ (.string qW)).setCell ⟨fT,2,none⟩ (.bool qX))):=⟨zb HB⟩
     (try clear bH)
     (try clear dW)
     (try clear dH)
     (try clear dD)
     (try clear nW)
     (try clear HK)
     (try clear HB)
     generalize(((OM.setCell ⟨fT,0,none⟩ (.string qV)).setCell ⟨fT,1,none⟩ (.string qW)).setCell ⟨fT,2,none⟩ (.bool qX))=w61 at tQ tT vz vB xK xL Ho ⊢
     have bH:=tQ
     have dW:=tT
     have dH:=vz
     have dD:=vB
     have nW:=xK
     have HK:=xL
     have HB:=Ho
     clear tQ tT vz vB xK xL Ho
     replace bH:=ah.mk (Kd.R_drew bH.out)
     replace dW:=ah.mk (dw dW.out)
     replace dH:=ah.mk (dw dH.out)
     replace dD:=ah.mk (dw dD.out)
     replace nW:=ah.mk (dw nW.out)
     replace HK:=ah.mk (Kept.drew HK.out)
     replace HB:=ah.mk (dF HB.out)
     refine st 9 (an (b2 dW) (b3 nW)) (fun hHeld=>?_);refine bK bS.tab9 bS.bits9 (fun HT_ HW_=>?_)
     generalize w61.drew=w62 at bH dW dH dD nW HK HB hHeld ⊢
     refine pu 4 (some 61) (bm 9 16) rfl rfl ?_
     refine tk 0 (some 57) (bm 9 17) rfl rfl hHeld ?_
     refine tk 1 (some 58) (bm 9 19) rfl rfl hHeld ?_
     refine tk 3 (some 60) (bm 9 27) rfl rfl hHeld ?_
     refine iN (i:=2) (N:=some 59) (bm 9 31) rfl rfl (eG HT_.out (by kernel_rfl)) (by decide) (fun K hK=>?_)
     refine gs Tryz.func73 #[.agg #[.slice AZ aH.length Ba,.int .i64 aA],.agg #[.string qV,.string qW,.bool qX]] ?_
     with_reducible refine(dV.calls k _ _ aH aA qV qW qX aow aox _ ?aN ?aQ A60.out).mono ?_
     (case aN=>exact zc (Kd.R_reads' bH.out).2.2)
     (case aQ=>exact(Kd.R_reads' bH.out).2.1)
     rintro e w63 ⟨aRF,rfl,ho0,hb⟩
     refine⟨_,rfl,?_⟩
     have adl:=ah.mk (Kd.R_lower (Kd.R_newB (Kd.R_newB (Kd.R_new' (Kd.R_newM (M:=fun k_=>(jw k_∨w.heap.size≤k_)) ho0 (by first|exact HK.out.1|exact(show Kept w _ (fun _=>False)from by repeat(first|(with_reducible first|exact HK.out|apply Kept.alloc|apply Kept.drewN|apply Kept.drew|refine Kept.setCell ?_ (.inr OI.out) _|refine Kept.setCell ?_ (.inr OJ.out) _|refine Kept.setCell ?_ (.inr OL.out) _|refine Kept.setCell ?_ (.inr aov.out) _)|exact HK.out)).1) (fun k_ h_=>.inr h_)) (Kd.R_lt (zr bH))) (zk dD)) (zk nW)) (aJ (zb HB)))
     replace bH:=ah.mk (Kd.R_elder' (zr bH) (Kd.R_base ho0) hb)
     replace dW:=kb dW hb
     replace dH:=kb dH hb
     replace dD:=kb dD hb
     replace nW:=kb nW hb
     replace HK:=kq hb
     replace HB:=ah.mk (ai (zb HB) hb)
     (try clear hb)
     (try clear ho0)
     obtain⟨aDN,aDO,aoz⟩:=Kd.R_slice adl.out
     (first|subst aoz|(injection aoz with Dq NG Dr;have NH:=Dq.symm;have NI:=Dr.symm;clear Dq NG Dr;subst NH;subst NI))
     refine hK.out _ _ (an (b2 dW) (b3 nW)) (fun hHeld=>?_)
     clear hK K
     refine nm ?_
     refine iN (i:=5) (N:=none) (bm 9 63) rfl rfl (eG HT_.out (by kernel_rfl)) (by decide) (fun K hK=>?_)
     have aRG:w63.cell? ⟨dZ,0,none⟩=some (.slice none 0 0):=(ak dH.out 0).trans rfl
     have aNb:=aj dH.out 0
     have awU:=dS.out
     have awV:=fD.out
     have awW:=iJ.out
     have awX:=jk.out
     have awY:=fB.out
     have awZ:=tX.out
     have aRH:w63.cell? ⟨dZ,1,none⟩=some (.int .i64 0):=(ak dH.out 1).trans rfl
     have aNc:=aj dH.out 1
     have ax0:=dS.out
     have ax1:=fD.out
     have ax2:=iJ.out
     have ax3:=jk.out
     have ax4:=fB.out
     have ax5:=tX.out
     refine oF (w1:=?_) (by rfl) rfl ?_ ?_
     rotate_left
     ·go_simp
      rfl
     refine hK.out _ _ (an ⟨((cell_far (p:=⟨dZ,_,none⟩) dS.out _).trans (((cell_far (p:=⟨dZ,_,none⟩) dS.out _).trans (hHeld.1.1)))),((cell_far (p:=⟨dZ,_,none⟩) dS.out _).trans (((cell_far (p:=⟨dZ,_,none⟩) dS.out _).trans (hHeld.1.2))))⟩ ⟨((cell_far (p:=⟨dZ,_,none⟩) iJ.out _).trans (((cell_far (p:=⟨dZ,_,none⟩) iJ.out _).trans (hHeld.2.1)))),((cell_far (p:=⟨dZ,_,none⟩) iJ.out _).trans (((cell_far (p:=⟨dZ,_,none⟩) iJ.out _).trans (hHeld.2.2.1)))),((cell_far (p:=⟨dZ,_,none⟩) iJ.out _).trans (((cell_far (p:=⟨dZ,_,none⟩) iJ.out _).trans (hHeld.2.2.2))))⟩) (fun hHeld=>?_)
     clear hK K
     refine iN (i:=6) (N:=none) (bm 9 127) rfl rfl (eG HT_.out (by kernel_rfl)) (by decide) (fun K hK=>?_)
     have aRI:w63.cell? ⟨bU,0,none⟩=some (.string (⟨#[]⟩:ByteArray)):=(ak dD.out 0).trans rfl
     have aNd:=aj dD.out 0
     have ax6:=bY.out
     have ax7:=fB.out
     have ax8:=fJ.out
     have ax9:=gP.out
     have axa:=fD.out
     have axb:=oU.out
     have aRJ:w63.cell? ⟨bU,1,none⟩=some (.string (⟨#[]⟩:ByteArray)):=(ak dD.out 1).trans rfl
     have aNe:=aj dD.out 1
     have axc:=bY.out
     have axd:=fB.out
     have axe:=fJ.out
     have axf:=gP.out
     have axg:=fD.out
     have axh:=oU.out
     have aRK:w63.cell? ⟨bU,2,none⟩=some (.bool false):=(ak dD.out 2).trans rfl
     have aNf:=aj dD.out 2
     have axi:=bY.out
     have axj:=fB.out
     have axk:=fJ.out
     have axl:=gP.out
     have axm:=fD.out
     have axn:=oU.out
     refine oF (w1:=?_) (by rfl) rfl ?_ ?_
     rotate_left
     ·go_simp
      rfl
     refine hK.out _ _ (an ⟨((cell_far (p:=⟨bU,_,none⟩) bY.out _).trans (((cell_far (p:=⟨bU,_,none⟩) bY.out _).trans (((cell_far (p:=⟨bU,_,none⟩) bY.out _).trans (hHeld.1.1)))))),((cell_far (p:=⟨bU,_,none⟩) bY.out _).trans (((cell_far (p:=⟨bU,_,none⟩) bY.out _).trans (((cell_far (p:=⟨bU,_,none⟩) bY.out _).trans (hHeld.1.2))))))⟩ ⟨((cell_far (p:=⟨bU,_,none⟩) fJ.out _).trans (((cell_far (p:=⟨bU,_,none⟩) fJ.out _).trans (((cell_far (p:=⟨bU,_,none⟩) fJ.out _).trans (hHeld.2.1)))))),((cell_far (p:=⟨bU,_,none⟩) fJ.out _).trans (((cell_far (p:=⟨bU,_,none⟩) fJ.out _).trans (((cell_far (p:=⟨bU,_,none⟩) fJ.out _).trans (hHeld.2.2.1)))))),((cell_far (p:=⟨bU,_,none⟩) fJ.out _).trans (((cell_far (p:=⟨bU,_,none⟩) fJ.out _).trans (((cell_far (p:=⟨bU,_,none⟩) fJ.out _).trans (hHeld.2.2.2))))))⟩) (fun hHeld=>?_)
     clear hK K
     refine pu 7 (some 6) (bm 9 255) rfl rfl ?_
     refine pu 8 (some 7) (bm 9 511) rfl rfl ?_
     refine lq (jC HT_.out (by kernel_rfl)) ?_
     try go_wp2
     refine bodyPost_ret (mJ (rs:=[.cell 4 25,.cell 5 89,.tmp 6,.tmp 7]) rfl (by simp) (.cell dZ 25 #[.slice aDN aow.length aDO,.int .i64 aox] (0,0) _ rfl (zp dH) Tryz.underlying25 rfl (by kernel_rfl) (.cell bU 89 #[.string qV,.string qW,.bool qX] (0,0) _ rfl (zp dD) Tryz.underlying89 rfl (by kernel_rfl) (.tmp (.tmp .nil))))) rfl ?_
     exact⟨_,ze,(Kd.R_mono (qj (Kd.R_mono (Kd.R_types adl.out dH.out (by decide)) (fun k_ hk=>(⟨hk,hk.1.1.2⟩:_∧k_≠bU)))) (fun _ hk=>hk.1.1.1.1.1.1)),zb HB,kz⟩
    ·replace c59:=Bool.eq_false_iff.mpr c59
     subst c59
     rw[if_neg (show ¬(false=true) by decide)]at H
     simp only[Option.some.injEq,Prod.mk.injEq]at H
     obtain⟨rfl,rfl,rfl,rfl,rfl,rfl,rfl⟩:=H
     try go_wp2
     have tQ:ah (Kd.R iH 89 (((OM.setCell ⟨fT,0,none⟩ (.string qV)).setCell ⟨fT,1,none⟩ (.string qW)).setCell ⟨fT,2,none⟩ (.bool qX)) w0.heap.size (fun k_=>(jw k_∨w.heap.size≤k_)∧k_≠bU∧k_≠fT) (.slice AZ aH.length Ba) aH):=⟨(Kd.R_mono (qj (Kd.R_mono bH.out (fun k_ hk=>(⟨hk,hk.2⟩:_∧k_≠fT)))) (fun _ hk=>⟨hk.1.1.1,⟨hk.1.1.2,hk.1.2⟩⟩))⟩
     have tT:ah ((((OM.setCell ⟨fT,0,none⟩ (.string qV)).setCell ⟨fT,1,none⟩ (.string qW)).setCell ⟨fT,2,none⟩ (.bool qX)).heap[wK]?=some (.cells #[.slice AZ aH.length Ba,.int .i64 aA] 25 (0,0))):=⟨zp dW⟩
     have vz:ah ((((OM.setCell ⟨fT,0,none⟩ (.string qV)).setCell ⟨fT,1,none⟩ (.string qW)).setCell ⟨fT,2,none⟩ (.bool qX)).heap[dZ]?=some (.cells #[.slice none 0 0,.int .i64 0] 25 (0,0))):=⟨zp dH⟩
     have vB:ah ((((OM.setCell ⟨fT,0,none⟩ (.string qV)).setCell ⟨fT,1,none⟩ (.string qW)).setCell ⟨fT,2,none⟩ (.bool qX)).heap[bU]?=some (.cells #[.string (⟨#[]⟩:ByteArray),.string (⟨#[]⟩:ByteArray),.bool false] 89 (0,0))):=⟨zp dD⟩
     have xK:ah ((((OM.setCell ⟨fT,0,none⟩ (.string qV)).setCell ⟨fT,1,none⟩ (.string qW)).setCell ⟨fT,2,none⟩ (.bool qX)).heap[fT]?=some (.cells #[.string qV,.string qW,.bool qX] 89 (0,0))):=⟨zp nW⟩
     have xL:ah (Kept w (((OM.setCell ⟨fT,0,none⟩ (.string qV)).setCell ⟨fT,1,none⟩ (.string qW)).setCell ⟨fT,2,none⟩ (.bool qX)) (fun _=>False)):=⟨kz⟩
     have Ho:ah (Below w0.heap.size w0 (((OM.setCell ⟨fT,0,none⟩ (.string qV)).setCell ⟨fT,1,none⟩ (.string qW)).setCell ⟨fT,2,none⟩ (.bool qX))):=⟨zb HB⟩
     (try clear bH)
     (try clear dW)
     (try clear dH)
     (try clear dD)
     (try clear nW)
     (try clear HK)
     (try clear HB)
     generalize(((OM.setCell ⟨fT,0,none⟩ (.string qV)).setCell ⟨fT,1,none⟩ (.string qW)).setCell ⟨fT,2,none⟩ (.bool qX))=w70 at tQ tT vz vB xK xL Ho ⊢
     have bH:=tQ
     have dW:=tT
     have dH:=vz
     have dD:=vB
     have nW:=xK
     have HK:=xL
     have HB:=Ho
     clear tQ tT vz vB xK xL Ho
     replace bH:=ah.mk (Kd.R_drew bH.out)
     replace dW:=ah.mk (dw dW.out)
     replace dH:=ah.mk (dw dH.out)
     replace dD:=ah.mk (dw dD.out)
     replace nW:=ah.mk (dw nW.out)
     replace HK:=ah.mk (Kept.drew HK.out)
     replace HB:=ah.mk (dF HB.out)
     refine st 6 (an (b2 dW) (b3 nW)) (fun hHeld=>?_)
     generalize w70.drew=w71 at bH dW dH dD nW HK HB hHeld ⊢
     refine tk 0 (some 55) (bm 6 1) rfl rfl hHeld ?_
     refine tk 1 (some 56) (bm 6 3) rfl rfl hHeld ?_
     refine iN (i:=2) (N:=none) (bm 6 7) rfl rfl (by kernel_rfl) (by decide) (fun K hK=>?_)
     have aRM:w71.cell? ⟨dZ,0,none⟩=some (.slice none 0 0):=(ak dH.out 0).trans rfl
     have aNg:=aj dH.out 0
     have axo:=dS.out
     have axp:=fD.out
     have axq:=iJ.out
     have axr:=jk.out
     have axs:=fB.out
     have axt:=tX.out
     have aRN:w71.cell? ⟨dZ,1,none⟩=some (.int .i64 0):=(ak dH.out 1).trans rfl
     have aNh:=aj dH.out 1
     have axu:=dS.out
     have axv:=fD.out
     have axw:=iJ.out
     have axx:=jk.out
     have axy:=fB.out
     have axz:=tX.out
     refine oF (w1:=?_) (by rfl) rfl ?_ ?_
     rotate_left
     ·go_simp
      rfl
     refine hK.out _ _ (an ⟨((cell_far (p:=⟨dZ,_,none⟩) dS.out _).trans (((cell_far (p:=⟨dZ,_,none⟩) dS.out _).trans (hHeld.1.1)))),((cell_far (p:=⟨dZ,_,none⟩) dS.out _).trans (((cell_far (p:=⟨dZ,_,none⟩) dS.out _).trans (hHeld.1.2))))⟩ ⟨((cell_far (p:=⟨dZ,_,none⟩) iJ.out _).trans (((cell_far (p:=⟨dZ,_,none⟩) iJ.out _).trans (hHeld.2.1)))),((cell_far (p:=⟨dZ,_,none⟩) iJ.out _).trans (((cell_far (p:=⟨dZ,_,none⟩) iJ.out _).trans (hHeld.2.2.1)))),((cell_far (p:=⟨dZ,_,none⟩) iJ.out _).trans (((cell_far (p:=⟨dZ,_,none⟩) iJ.out _).trans (hHeld.2.2.2))))⟩) (fun hHeld=>?_)
     clear hK K
     refine iN (i:=3) (N:=none) (bm 6 15) rfl rfl (by kernel_rfl) (by decide) (fun K hK=>?_)
     have aDP:w71.cell? ⟨bU,0,none⟩=some (.string (⟨#[]⟩:ByteArray)):=(ak dD.out 0).trans rfl
     have aoA:=aj dD.out 0
     have a9I:=bY.out
     have axA:=fB.out
     have axB:=fJ.out
     have a9J:=gP.out
     have axC:=fD.out
     have axD:=oU.out
     have aRO:w71.cell? ⟨bU,1,none⟩=some (.string (⟨#[]⟩:ByteArray)):=(ak dD.out 1).trans rfl
     have aNi:=aj dD.out 1
     have axE:=bY.out
     have axF:=fB.out
     have axG:=fJ.out
     have axH:=gP.out
     have axI:=fD.out
     have axJ:=oU.out
     have aRP:w71.cell? ⟨bU,2,none⟩=some (.bool false):=(ak dD.out 2).trans rfl
     have aNj:=aj dD.out 2
     have axK:=bY.out
     have axL:=fB.out
     have axM:=fJ.out
     have axN:=gP.out
     have axO:=fD.out
     have axP:=oU.out
     refine oF (w1:=?_) (by rfl) rfl ?_ ?_
     rotate_left
     ·go_simp
      rfl
     refine hK.out _ _ (an ⟨((cell_far (p:=⟨bU,_,none⟩) bY.out _).trans (((cell_far (p:=⟨bU,_,none⟩) bY.out _).trans (((cell_far (p:=⟨bU,_,none⟩) bY.out _).trans (hHeld.1.1)))))),((cell_far (p:=⟨bU,_,none⟩) bY.out _).trans (((cell_far (p:=⟨bU,_,none⟩) bY.out _).trans (((cell_far (p:=⟨bU,_,none⟩) bY.out _).trans (hHeld.1.2))))))⟩ ⟨((cell_far (p:=⟨bU,_,none⟩) fJ.out _).trans (((cell_far (p:=⟨bU,_,none⟩) fJ.out _).trans (((cell_far (p:=⟨bU,_,none⟩) fJ.out _).trans (hHeld.2.1)))))),((cell_far (p:=⟨bU,_,none⟩) fJ.out _).trans (((cell_far (p:=⟨bU,_,none⟩) fJ.out _).trans (((cell_far (p:=⟨bU,_,none⟩) fJ.out _).trans (hHeld.2.2.1)))))),((cell_far (p:=⟨bU,_,none⟩) fJ.out _).trans (((cell_far (p:=⟨bU,_,none⟩) fJ.out _).trans (((cell_far (p:=⟨bU,_,none⟩) fJ.out _).trans (hHeld.2.2.2))))))⟩) (fun hHeld=>?_)
     clear hK K
     refine pu 4 (some 6) (bm 6 31) rfl rfl ?_
     refine pu 5 (some 7) (bm 6 63) rfl rfl ?_
     refine lq (by kernel_rfl) ?_
     try go_wp2
     refine bodyPost_ret (mJ (rs:=[.cell 4 25,.cell 5 89,.tmp 6,.tmp 7]) rfl (by simp) (.cell dZ 25 #[.slice AZ aH.length Ba,.int .i64 aA] (0,0) _ rfl (zp dH) Tryz.underlying25 rfl (by kernel_rfl) (.cell bU 89 #[.string qV,.string qW,.bool qX] (0,0) _ rfl (zp dD) Tryz.underlying89 rfl (by kernel_rfl) (.tmp (.tmp .nil))))) rfl ?_
     exact⟨_,ze,(Kd.R_mono (qj (Kd.R_mono (Kd.R_types bH.out dH.out (by decide)) (fun k_ hk=>(⟨hk,hk.1.2.1⟩:_∧k_≠bU)))) (fun _ hk=>hk.1.1.1)),zb HB,kz⟩
   ·rw[if_neg c47]at H
    have c47b0:=decide_eq_false c47
    clear c47
    obtain⟨a1u,A78,H⟩:=ob H
    (try dsimp only at H)
    by_cases c79:a1u=true
    ·subst c79
     rw[if_pos rfl]at H
     obtain⟨⟨Gj,Gl,L9,aDQ,aDR⟩,A80,H⟩:=ob H
     (try dsimp only at H)
     simp only[Option.some.injEq,Prod.mk.injEq]at H
     obtain⟨rfl,rfl,rfl,rfl,rfl,rfl,rfl⟩:=H
     have p46:0≤(0:Int):=(by omega)
     have QA:0<a1.size:=(by have:(0:Int)<(a1.size:Int):=of_decide_eq_true za;omega)
     have aor:∀h:0<a1.size,((a1[0]'h).toNat:Int)=bt a1 0:=fF a1 0
     clear p46
     have aos:(0<(a1.size:Int))=True:=eq_true (of_decide_eq_true za)
     replace QA:=eq_true QA
     have p77:0≤(0:Int):=(by omega)
     have q77:0<a1.size:=(by have:(0:Int)<(a1.size:Int):=of_decide_eq_true za;omega)
     have aDT:∀h:0<a1.size,((a1[0]'h).toNat:Int)=bt a1 0:=fF a1 0
     clear p77
     have aDU:(0<(a1.size:Int))=True:=eq_true (of_decide_eq_true za)
     replace q77:=eq_true q77
     try go_wp2_with (first|((with_reducible refine gq 44 rfl ?_);refine gl (some 66) Tryz.func44 #[.int .i64 (wrap64 (bt a1 0)),.int .i64 16,.int .i64 31] ?_;(with_reducible refine(cK.calls (wrap64 (bt a1 0)) 16 31 true _ A78.out).mono ?_);rintro e w' ⟨rfl,⟨nd,rfl⟩⟩;refine⟨_,rfl,?_⟩;(try(rw[uH w9];generalize iI:World.drewN w9 _=w9;have tQ:ah (Kd.R iH 89 w9 w0.heap.size (fun k_=>(jw k_∨w.heap.size≤k_)∧k_≠bU) (.slice AZ aH.length Ba) aH):=⟨by rw[←iI];exact(zr bH)⟩;have tT:ah (w9.heap[wK]?=some (.cells #[.slice AZ aH.length Ba,.int .i64 aA] 25 (0,0))):=⟨by rw[←iI];exact(zk dW)⟩;have vz:ah (w9.heap[dZ]?=some (.cells #[.slice none 0 0,.int .i64 0] 25 (0,0))):=⟨by rw[←iI];exact(zk dH)⟩;have vB:ah (w9.heap[bU]?=some (.cells #[.string (⟨#[]⟩:ByteArray),.string (⟨#[]⟩:ByteArray),.bool false] 89 (0,0))):=⟨by rw[←iI];exact(zk dD)⟩;have xK:ah (Kept w w9 (fun _=>False)):=⟨by rw[←iI];exact(by repeat(first|(with_reducible first|exact HK.out|apply Kept.alloc|apply Kept.drewN|apply Kept.drew|refine Kept.setCell ?_ (.inr OI.out) _|refine Kept.setCell ?_ (.inr OJ.out) _|refine Kept.setCell ?_ (.inr OL.out) _)|exact HK.out))⟩;have xL:ah (Below w0.heap.size w0 w9):=⟨by rw[←iI];exact(zb HB)⟩;clear bH dW dH dD HK HB iI;have bH:=tQ;have dW:=tT;have dH:=vz;have dD:=vB;have HK:=xK;have HB:=xL;clear tQ tT vz vB xK xL));have aoC:=dS.out;have aoD:=jk.out;have aoE:=bY.out;have aoF:=gP.out;obtain⟨a9K,a9L,a9M,a9N⟩:=c2 dW)|((with_reducible refine gq 118 rfl ?_);refine gl (some 70) Tryz.func118 #[.agg #[.slice AZ aH.length Ba,.int .i64 aA],.string a1,.int .i64 4] ?_;(with_reducible refine(gV.calls k _ _ aH aA a1 4 Gj Gl L9 aDQ aDR _ ?aN ?aQ A80.out).mono ?_);(case aN=>exact zc (Kd.R_reads' bH.out).2.2);(case aQ=>exact(Kd.R_reads' bH.out).2.1);rintro e w84 ⟨rfl,hb⟩;refine⟨_,rfl,?_⟩;replace bH:=ah.mk (Kd.R_below (zr bH) hb);replace dW:=kb dW hb;replace dH:=kb dH hb;replace dD:=kb dD hb;replace HK:=kq hb;replace HB:=ah.mk (ai (zb HB) hb);(try clear hb))|((with_reducible refine gd 16 rfl ?_);refine bx (N:=16) (cs:=#[.string (⟨#[]⟩:ByteArray),.string (⟨#[]⟩:ByteArray),.bool false]) (t:=89) ?_;intro iX hg w85 hbox hb;replace bH:=ah.mk (Kd.R_below (Kd.R_elderB (zr bH) iX (Nat.le_of_eq hg.symm)) hb);have Du:=ah.mk (hbox);have aNl:=ah.mk ((by rw[hg];exact(kz (w:=w)).1:w.heap.size≤iX));replace HK:=kq hb;have aNm:=ah.mk ((by rw[hg];exact(aJ (zb HB)):w0.heap.size≤iX));replace HB:=ah.mk (ai (zb HB) hb);obtain⟨XO,XP⟩:=nb dW hg;replace dW:=kb dW hb;obtain⟨Cg,mU⟩:=nb dH hg;replace dH:=kb dH hb;obtain⟨xM,jM⟩:=nb dD hg;replace dD:=kb dD hb;clear hb hbox hg;have aNn:=XP.out;have aNo:=XO.out;have aNp:=mU.out;have aNq:=Cg.out;have aNr:=jM.out;have aNs:=xM.out;obtain⟨axR,axS,axT,axU,axV,axW⟩:=c3 Du))
     have tQ:ah (Kd.R iH 89 ((((w85.setCell ⟨iX,0,none⟩ (.string Gj)).setCell ⟨iX,1,none⟩ (.string Gl)).setCell ⟨iX,2,none⟩ (.bool L9)).setCell ⟨iX,2,none⟩ (.bool true)) w0.heap.size (fun k_=>(jw k_∨w.heap.size≤k_)∧k_≠bU∧k_≠iX) (.slice AZ aH.length Ba) aH):=⟨(Kd.R_mono (qj (Kd.R_mono bH.out (fun k_ hk=>(⟨hk,hk.2⟩:_∧k_≠iX)))) (fun _ hk=>⟨hk.1.1.1,⟨hk.1.1.2,hk.1.2⟩⟩))⟩
     have tT:ah (((((w85.setCell ⟨iX,0,none⟩ (.string Gj)).setCell ⟨iX,1,none⟩ (.string Gl)).setCell ⟨iX,2,none⟩ (.bool L9)).setCell ⟨iX,2,none⟩ (.bool true)).heap[wK]?=some (.cells #[.slice AZ aH.length Ba,.int .i64 aA] 25 (0,0))):=⟨zp dW⟩
     have vz:ah (((((w85.setCell ⟨iX,0,none⟩ (.string Gj)).setCell ⟨iX,1,none⟩ (.string Gl)).setCell ⟨iX,2,none⟩ (.bool L9)).setCell ⟨iX,2,none⟩ (.bool true)).heap[dZ]?=some (.cells #[.slice none 0 0,.int .i64 0] 25 (0,0))):=⟨zp dH⟩
     have vB:ah (((((w85.setCell ⟨iX,0,none⟩ (.string Gj)).setCell ⟨iX,1,none⟩ (.string Gl)).setCell ⟨iX,2,none⟩ (.bool L9)).setCell ⟨iX,2,none⟩ (.bool true)).heap[bU]?=some (.cells #[.string (⟨#[]⟩:ByteArray),.string (⟨#[]⟩:ByteArray),.bool false] 89 (0,0))):=⟨zp dD⟩
     have xK:ah (((((w85.setCell ⟨iX,0,none⟩ (.string Gj)).setCell ⟨iX,1,none⟩ (.string Gl)).setCell ⟨iX,2,none⟩ (.bool L9)).setCell ⟨iX,2,none⟩ (.bool true)).heap[iX]?=some (.cells #[.string Gj,.string Gl,.bool true] 89 (0,0))):=⟨zp Du⟩
     have xL:ah (Kept w ((((w85.setCell ⟨iX,0,none⟩ (.string Gj)).setCell ⟨iX,1,none⟩ (.string Gl)).setCell ⟨iX,2,none⟩ (.bool L9)).setCell ⟨iX,2,none⟩ (.bool true)) (fun _=>False)):=⟨kz⟩
     have Ho:ah (Below w0.heap.size w0 ((((w85.setCell ⟨iX,0,none⟩ (.string Gj)).setCell ⟨iX,1,none⟩ (.string Gl)).setCell ⟨iX,2,none⟩ (.bool L9)).setCell ⟨iX,2,none⟩ (.bool true))):=⟨zb HB⟩
     (try clear bH)
     (try clear dW)
     (try clear dH)
     (try clear dD)
     (try clear Du)
     (try clear HK)
     (try clear HB)
     generalize((((w85.setCell ⟨iX,0,none⟩ (.string Gj)).setCell ⟨iX,1,none⟩ (.string Gl)).setCell ⟨iX,2,none⟩ (.bool L9)).setCell ⟨iX,2,none⟩ (.bool true))=w90 at tQ tT vz vB xK xL Ho ⊢
     have bH:=tQ
     have dW:=tT
     have dH:=vz
     have dD:=vB
     have Du:=xK
     have HK:=xL
     have HB:=Ho
     clear tQ tT vz vB xK xL Ho
     replace bH:=ah.mk (Kd.R_drew bH.out)
     replace dW:=ah.mk (dw dW.out)
     replace dH:=ah.mk (dw dH.out)
     replace dD:=ah.mk (dw dD.out)
     replace Du:=ah.mk (dw Du.out)
     replace HK:=ah.mk (Kept.drew HK.out)
     replace HB:=ah.mk (dF HB.out)
     refine st 8 (an (b2 dW) (b3 Du)) (fun hHeld=>?_);refine bK bS.tab13 bS.bits13 (fun HT_ HW_=>?_)
     generalize w90.drew=w91 at bH dW dH dD Du HK HB hHeld ⊢
     refine pu 2 (some 77) (bm 8 4) rfl rfl ?_
     refine pu 3 (some 78) (bm 8 12) rfl rfl ?_
     refine tk 0 (some 75) (bm 8 13) rfl rfl hHeld ?_
     refine tk 1 (some 76) (bm 8 15) rfl rfl hHeld ?_
     refine iN (i:=4) (N:=none) (bm 8 31) rfl rfl (eG HT_.out (by kernel_rfl)) (by decide) (fun K hK=>?_)
     have aRS:w91.cell? ⟨dZ,0,none⟩=some (.slice none 0 0):=(ak dH.out 0).trans rfl
     have aNt:=aj dH.out 0
     have axX:=dS.out
     have axY:=fD.out
     have axZ:=mU.out
     have ay0:=jk.out
     have ay1:=fB.out
     have ay2:=Cg.out
     have aRT:w91.cell? ⟨dZ,1,none⟩=some (.int .i64 0):=(ak dH.out 1).trans rfl
     have aNu:=aj dH.out 1
     have ay3:=dS.out
     have ay4:=fD.out
     have ay5:=mU.out
     have ay6:=jk.out
     have ay7:=fB.out
     have ay8:=Cg.out
     refine oF (w1:=?_) (by rfl) rfl ?_ ?_
     rotate_left
     ·go_simp
      rfl
     refine hK.out _ _ (an ⟨((cell_far (p:=⟨dZ,_,none⟩) dS.out _).trans (((cell_far (p:=⟨dZ,_,none⟩) dS.out _).trans (hHeld.1.1)))),((cell_far (p:=⟨dZ,_,none⟩) dS.out _).trans (((cell_far (p:=⟨dZ,_,none⟩) dS.out _).trans (hHeld.1.2))))⟩ ⟨((cell_far (p:=⟨dZ,_,none⟩) mU.out _).trans (((cell_far (p:=⟨dZ,_,none⟩) mU.out _).trans (hHeld.2.1)))),((cell_far (p:=⟨dZ,_,none⟩) mU.out _).trans (((cell_far (p:=⟨dZ,_,none⟩) mU.out _).trans (hHeld.2.2.1)))),((cell_far (p:=⟨dZ,_,none⟩) mU.out _).trans (((cell_far (p:=⟨dZ,_,none⟩) mU.out _).trans (hHeld.2.2.2))))⟩) (fun hHeld=>?_)
     clear hK K
     refine iN (i:=5) (N:=none) (bm 8 63) rfl rfl (eG HT_.out (by kernel_rfl)) (by decide) (fun K hK=>?_)
     have aRU:w91.cell? ⟨bU,0,none⟩=some (.string (⟨#[]⟩:ByteArray)):=(ak dD.out 0).trans rfl
     have aNv:=aj dD.out 0
     have ay9:=bY.out
     have aya:=fB.out
     have ayb:=jM.out
     have ayc:=gP.out
     have ayd:=fD.out
     have aye:=xM.out
     have aRV:w91.cell? ⟨bU,1,none⟩=some (.string (⟨#[]⟩:ByteArray)):=(ak dD.out 1).trans rfl
     have aNw:=aj dD.out 1
     have ayf:=bY.out
     have ayg:=fB.out
     have ayh:=jM.out
     have ayi:=gP.out
     have ayj:=fD.out
     have ayk:=xM.out
     have aRW:w91.cell? ⟨bU,2,none⟩=some (.bool false):=(ak dD.out 2).trans rfl
     have aNx:=aj dD.out 2
     have ayl:=bY.out
     have aym:=fB.out
     have ayn:=jM.out
     have ayo:=gP.out
     have ayp:=fD.out
     have ayq:=xM.out
     refine oF (w1:=?_) (by rfl) rfl ?_ ?_
     rotate_left
     ·go_simp
      rfl
     refine hK.out _ _ (an ⟨((cell_far (p:=⟨bU,_,none⟩) bY.out _).trans (((cell_far (p:=⟨bU,_,none⟩) bY.out _).trans (((cell_far (p:=⟨bU,_,none⟩) bY.out _).trans (hHeld.1.1)))))),((cell_far (p:=⟨bU,_,none⟩) bY.out _).trans (((cell_far (p:=⟨bU,_,none⟩) bY.out _).trans (((cell_far (p:=⟨bU,_,none⟩) bY.out _).trans (hHeld.1.2))))))⟩ ⟨((cell_far (p:=⟨bU,_,none⟩) jM.out _).trans (((cell_far (p:=⟨bU,_,none⟩) jM.out _).trans (((cell_far (p:=⟨bU,_,none⟩) jM.out _).trans (hHeld.2.1)))))),((cell_far (p:=⟨bU,_,none⟩) jM.out _).trans (((cell_far (p:=⟨bU,_,none⟩) jM.out _).trans (((cell_far (p:=⟨bU,_,none⟩) jM.out _).trans (hHeld.2.2.1)))))),((cell_far (p:=⟨bU,_,none⟩) jM.out _).trans (((cell_far (p:=⟨bU,_,none⟩) jM.out _).trans (((cell_far (p:=⟨bU,_,none⟩) jM.out _).trans (hHeld.2.2.2))))))⟩) (fun hHeld=>?_)
     clear hK K
     refine pu 6 (some 6) (bm 8 127) rfl rfl ?_
     refine pu 7 (some 7) (bm 8 255) rfl rfl ?_
     refine lq (jC HT_.out (by kernel_rfl)) ?_
     try go_wp2
     refine bodyPost_ret (mJ (rs:=[.cell 4 25,.cell 5 89,.tmp 6,.tmp 7]) rfl (by simp) (.cell dZ 25 #[.slice AZ aH.length Ba,.int .i64 aA] (0,0) _ rfl (zp dH) Tryz.underlying25 rfl (by kernel_rfl) (.cell bU 89 #[.string Gj,.string Gl,.bool true] (0,0) _ rfl (zp dD) Tryz.underlying89 rfl (by kernel_rfl) (.tmp (.tmp .nil))))) rfl ?_
     exact⟨_,ze,(Kd.R_mono (qj (Kd.R_mono (Kd.R_types bH.out dH.out (by decide)) (fun k_ hk=>(⟨hk,hk.1.2.1⟩:_∧k_≠bU)))) (fun _ hk=>hk.1.1.1)),zb HB,kz⟩
    ·replace c79:=Bool.eq_false_iff.mpr c79
     subst c79
     rw[if_neg (show ¬(false=true) by decide)]at H
     simp only[Option.some.injEq,Prod.mk.injEq]at H
     obtain⟨rfl,rfl,rfl,rfl,rfl,rfl,rfl⟩:=H
     have p46:0≤(0:Int):=(by omega)
     have QA:0<a1.size:=(by have:(0:Int)<(a1.size:Int):=of_decide_eq_true za;omega)
     have aor:∀h:0<a1.size,((a1[0]'h).toNat:Int)=bt a1 0:=fF a1 0
     clear p46
     have aos:(0<(a1.size:Int))=True:=eq_true (of_decide_eq_true za)
     replace QA:=eq_true QA
     have p77:0≤(0:Int):=(by omega)
     have q77:0<a1.size:=(by have:(0:Int)<(a1.size:Int):=of_decide_eq_true za;omega)
     have aDT:∀h:0<a1.size,((a1[0]'h).toNat:Int)=bt a1 0:=fF a1 0
     clear p77
     have aDU:(0<(a1.size:Int))=True:=eq_true (of_decide_eq_true za)
     replace q77:=eq_true q77
     go_wp2_with (first|((with_reducible refine gq 44 rfl ?_);refine gl (some 66) Tryz.func44 #[.int .i64 (wrap64 (bt a1 0)),.int .i64 16,.int .i64 31] ?_;(with_reducible refine(cK.calls (wrap64 (bt a1 0)) 16 31 false _ A78.out).mono ?_);rintro e w' ⟨rfl,⟨nd,rfl⟩⟩;refine⟨_,rfl,?_⟩;(try(rw[uH w9];generalize iI:World.drewN w9 _=w9;have tQ:ah (Kd.R iH 89 w9 w0.heap.size (fun k_=>(jw k_∨w.heap.size≤k_)∧k_≠bU) (.slice AZ aH.length Ba) aH):=⟨by rw[←iI];exact(zr bH)⟩;have tT:ah (w9.heap[wK]?=some (.cells #[.slice AZ aH.length Ba,.int .i64 aA] 25 (0,0))):=⟨by rw[←iI];exact(zk dW)⟩;have vz:ah (w9.heap[dZ]?=some (.cells #[.slice none 0 0,.int .i64 0] 25 (0,0))):=⟨by rw[←iI];exact(zk dH)⟩;have vB:ah (w9.heap[bU]?=some (.cells #[.string (⟨#[]⟩:ByteArray),.string (⟨#[]⟩:ByteArray),.bool false] 89 (0,0))):=⟨by rw[←iI];exact(zk dD)⟩;have xK:ah (Kept w w9 (fun _=>False)):=⟨by rw[←iI];exact(by repeat(first|(with_reducible first|exact HK.out|apply Kept.alloc|apply Kept.drewN|apply Kept.drew|refine Kept.setCell ?_ (.inr OI.out) _|refine Kept.setCell ?_ (.inr OJ.out) _|refine Kept.setCell ?_ (.inr OL.out) _)|exact HK.out))⟩;have xL:ah (Below w0.heap.size w0 w9):=⟨by rw[←iI];exact(zb HB)⟩;clear bH dW dH dD HK HB iI;have bH:=tQ;have dW:=tT;have dH:=vz;have dD:=vB;have HK:=xK;have HB:=xL;clear tQ tT vz vB xK xL));have aNy:=dS.out;have aNz:=jk.out;have aNA:=bY.out;have aNB:=gP.out;obtain⟨ayr,ays,ayt,ayu⟩:=c2 dW;have aDV:=fB.out;have aDW:=fD.out;obtain⟨aoH,aoI,aoJ,aoK⟩:=c2 dH;obtain⟨aoL,aoM,aoN,aoO,aoP,aoQ⟩:=c3 dD))
     refine bodyPost_ret (mJ (rs:=[.cell 4 25,.cell 5 89,.tmp 6,.tmp 7]) rfl (by simp) (.cell dZ 25 #[.slice AZ aH.length Ba,.int .i64 aA] (0,0) _ rfl (zp dH) Tryz.underlying25 rfl (by kernel_rfl) (.cell bU 89 #[.string (⟨#[]⟩:ByteArray),.string (⟨#[]⟩:ByteArray),.bool false] (0,0) _ rfl (zp dD) Tryz.underlying89 rfl (by kernel_rfl) (.tmp (.tmp .nil))))) rfl ?_
     exact⟨_,ze,(Kd.R_mono (qj (Kd.R_mono (Kd.R_types bH.out dH.out (by decide)) (fun k_ hk=>(⟨hk,hk.1.2⟩:_∧k_≠bU)))) (fun _ hk=>hk.1.1.1)),zb HB,kz⟩
 ·skip
  exact absurd H (by simp)
def dO.l0:Nat→ByteArray→List (bf)→List (bf)→Int→Option ((List (bf))×Int×(List (bf))×Bool)
 |0,_,_,_,_=>none
 |k+1,x1,x7,VL,VN=>if x1.toList=([]:List UInt8)then(some (VL,VN,x7,true))else((bS.f k VL VN x1).bind fun Bb=>(if Bb.2.2.2.2.2.2=true then(if(x7.length:Int)≥6 then(some (([]:List (bf)),0,(([]:List (bf))),false))else(if x7.length<3518437208883 then(if 0≤Bb.2.2.2.2.2.1 then(if Bb.2.2.2.2.2.1≤(x1.size:Int)then(dO.l0 k (x1.extract (Bb.2.2.2.2.2.1:Int).toNat x1.size) (x7++[(⟨Bb.2.2.1,Bb.2.2.2.1,Bb.2.2.2.2.1⟩:bf)]) Bb.1 Bb.2.1)else(none))else(none))else(none)))else(some (([]:List (bf)),0,(([]:List (bf))),false))))
def dO.f(k:Nat)(aH:List (bf))(aA:Int)(a1:ByteArray):Option ((List (bf))×Int×(List (bf))×Bool):=dO.l0 k a1 (([]:List (bf))) aH aA
theorem dO.mono_l:∀k,(∀y0 y1 y2 y3,gM (dO.l0 k y0 y1 y2 y3) (dO.l0 (k+1) y0 y1 y2 y3))
 |0=>fun _ _ _ _ r h=>by simp[dO.l0]at h
 |k+1=>by
  have mW:=dO.mono_l k
  ·intro y0 y1 y2 y3
   unfold dO.l0
   have m0:=@bS.mono
   exact zm
theorem dO.mono:∀a0 a1 a2 k,gM (dO.f k a0 a1 a2) (dO.f (k+1) a0 a1 a2):=by
 intro a0 a1 a2 k
 have mW:=dO.mono_l k
 unfold dO.f
 have m0:=@bS.mono
 exact zm
theorem dO.calls(k:Nat)(jw:Nat→Prop)(l8:Value)(aH:List (bf))(aA:Int)(a1:ByteArray)(r1:List (bf))(r2:Int)(r3:List (bf))(r4:Bool)(w0 w:World)(hB:Below w0.heap.size w0 w)(Gi:Kd.R iH 89 w w0.heap.size jw l8 aH)(h:dO.f k aH aA a1=some (r1,r2,r3,r4)):
 Calls Tryz.prog 106 #[.agg #[l8,.int .i64 aA],.string a1] w fun e w'=>∃vM v2_:Value,e= .returned (.tuple #[.agg #[vM,.int .i64 r2],v2_,.bool r4])∧Kd.R iH 89 w' w0.heap.size (fun k_=>(jw k_∨w.heap.size≤k_)∧some k_≠(v2_:Value).ownBlock) vM r1∧Kd.R iH 89 w' w0.heap.size (fun k_=>(False∨w.heap.size≤k_)∧some k_≠(vM:Value).ownBlock) v2_ r3∧Below w0.heap.size w0 w'∧Kept w w' (fun _=>False):=by
 have Ab:=Tryz.underlying25
 have sN:=Tryz.underlying89
 have bH:=ah.mk (show Kd.R iH 89 w w0.heap.size (fun k_=>(jw k_∨w.heap.size≤k_)) l8 aH from Kd.R_mono Gi (fun k_ hk=>(.inl hk)))
 have HK:=ah.mk (Kept.refl w (fun _=>False))
 have HW0:=ah.mk hB.size
 have HB:=ah.mk hB
 clear hB
 have H:(dO.l0 k a1 (([]:List (bf))) aH aA)=some (r1,r2,r3,r4):=h
 clear h
 obtain⟨aoR,OO⟩:∃y_:List (bf),y_=(([]:List (bf))):=⟨_,rfl⟩
 replace H:(dO.l0 k a1 aoR aH aA)=some (r1,r2,r3,r4):=by first|(rw[OO];with_reducible exact H)|(have fH:=(Option.bind_some _ _).symm.trans H;rw[OO];with_reducible exact fH)|(have fH:=(Option.bind_some _ _).symm.trans H;with_reducible exact fH)|with_reducible exact H|(rw[OO];exact H)|exact H
 have adn:=ah.mk OO
 clear OO
 have H':=ah.mk H
 clear H
 obtain⟨Ao3,co3,eo3⟩:=Kd.R_slice bH.out
 subst eo3
 go_enter Tryz.func106,Tryz.ntmps106
 go_wp2_with (first|((with_reducible refine gd 2 rfl ?_);(try(refine ay (by rfl) ?_;dsimp only));refine bx (N:=2) (cs:=#[.slice Ao3 aH.length co3,.int .i64 aA]) (t:=25) ?_;intro IU hg w4 hbox hb;replace bH:=ah.mk (Kd.R_below (zr bH) hb);have iY:=ah.mk (hbox);have kL:=ah.mk ((by rw[hg];exact(by first|exact HK.out.1|exact(show Kept w _ (fun _=>False)from by repeat(first|(with_reducible first|exact HK.out|apply Kept.alloc|apply Kept.drewN|apply Kept.drew)|exact HK.out)).1):w.heap.size≤IU));replace HK:=ah.mk (Kept.below (S:=(fun _=>False)) (by repeat(first|(with_reducible first|exact HK.out|apply Kept.alloc|apply Kept.drewN|apply Kept.drew)|exact HK.out)) hb);have aNC:=ah.mk ((by rw[hg];exact(aJ (zb HB)):w0.heap.size≤IU));replace HB:=ah.mk (ai (zb HB) hb);clear hb hbox hg)|((with_reducible refine gd 4 rfl ?_);(try(refine ay (by rfl) ?_;dsimp only));refine bx (N:=4) (cs:=#[.slice none 0 0,.int .i64 0]) (t:=25) ?_;intro Bc hg w5 hbox hb;replace bH:=ah.mk (Kd.R_below (zr bH) hb);have iZ:=ah.mk (hbox);have lu:=ah.mk ((by rw[hg];exact(by first|exact HK.out.1|exact(show Kept w _ (fun _=>False)from by repeat(first|(with_reducible first|exact HK.out|apply Kept.alloc|apply Kept.drewN|apply Kept.drew|refine Kept.setCell ?_ (.inr kL.out) _)|exact HK.out)).1):w.heap.size≤Bc));replace HK:=ah.mk (Kept.below (S:=(fun _=>False)) (by repeat(first|(with_reducible first|exact HK.out|apply Kept.alloc|apply Kept.drewN|apply Kept.drew|refine Kept.setCell ?_ (.inr kL.out) _)|exact HK.out)) hb);have aND:=ah.mk ((by rw[hg];exact(aJ (zb HB)):w0.heap.size≤Bc));replace HB:=ah.mk (ai (zb HB) hb);obtain⟨tY,tZ⟩:=nb iY hg;replace iY:=kb iY hb;clear hb hbox hg)|((with_reducible refine gd 12 rfl ?_);(try(refine ay (by rfl) ?_;dsimp only));refine Kd.R_lit iH _ 89 ?hg (N:=12) ?hd (xs:=([]:List (bf))) (inner:=[]) (ok:=fun _=>True) (okp:=fun _=>True) ?hr ?hp (fun _ hk=>hk) trivial (Below.refl _ _) (Nat.le_refl _) (by simp) ?_;(case hd=>rfl);(case hg=>rfl);(case hr=>first|(go_simp;done)|(go_simp;rfl));(case hp=>exact(dm.none _ _));intro aRX w6 ho7 hb nL fM;clear nL fM;(first|rw[←adn.out]at ho7|(simp only[Int.reduceToNat]at ho7;rw[←adn.out]at ho7));have aoU:=ah.mk (Kd.R_lower (Kd.R_new' (Kd.R_newM (M:=fun k_=>(False∨w.heap.size≤k_)) ho7 (by first|exact HK.out.1|exact(show Kept w _ (fun _=>False)from by repeat(first|(with_reducible first|exact HK.out|apply Kept.alloc|apply Kept.drewN|apply Kept.drew|refine Kept.setCell ?_ (.inr kL.out) _|refine Kept.setCell ?_ (.inr lu.out) _)|exact HK.out)).1) (fun k_ h_=>.inr h_)) (Kd.R_lt (zr bH))) (aJ (zb HB)));replace bH:=ah.mk (Kd.R_elder' (zr bH) (Kd.R_base ho7) hb);replace iY:=kb iY hb;replace iZ:=kb iZ hb;replace HK:=ah.mk (Kept.below (S:=(fun _=>False)) (by repeat(first|(with_reducible first|exact HK.out|apply Kept.alloc|apply Kept.drewN|apply Kept.drew|refine Kept.setCell ?_ (.inr kL.out) _|refine Kept.setCell ?_ (.inr lu.out) _)|exact HK.out)) hb);replace HB:=ah.mk (ai (zb HB) hb);clear hb ho7))
 go_loopg [1,7] k (fun kq v1 v7 w'=>∃(oD:ByteArray)(fE:List (bf))(jD:List (bf))(lF:Int)(qC:Int)(F4:Value),v1= .string oD∧ah (dO.l0 kq oD fE jD lF=some (r1,r2,r3,r4))∧ah (kq≤k)∧ah (Kd.R iH 89 w' w0.heap.size (fun k_=>(False∨w.heap.size≤k_)∧some k_≠(F4:Value).ownBlock) v7 fE)∧ah (Kd.R iH 89 w' w0.heap.size (fun k_=>(jw k_∨w.heap.size≤k_)∧some k_≠(v7:Value).ownBlock) F4 jD)∧ah (w'.heap[IU]?=some (.cells #[F4,.int .i64 lF] 25 (0,0)))∧ah (w'.heap[Bc]?=some (.cells #[(.slice none 0 0),.int .i64 qC] 25 (0,0)))∧ah (Kept w w' (fun _=>False))∧ah (Below w0.heap.size w0 w'))
 case atStart=>exact⟨(a1),(aoR),(aH),(aA),(0),(.slice Ao3 aH.length co3),zs,H',⟨Nat.le_refl _⟩,⟨zq (Kd.R_mono aoU.out (fun _ hk=>⟨hk.1.1,hk.2⟩))⟩,⟨by exact zr bH⟩,⟨by exact zk iY⟩,⟨by exact zk iZ⟩,⟨by repeat(first|(with_reducible first|exact HK.out|apply Kept.alloc|apply Kept.drewN|apply Kept.drew|refine Kept.setCell ?_ (.inr kL.out) _|refine Kept.setCell ?_ (.inr lu.out) _)|exact HK.out)⟩,⟨zb HB⟩⟩
 case round=>
  clear H'
  try clear c1
  try clear p2
  obtain⟨oD,fE,jD,lF,qC,F4,rfl,HA,jd,HO_7,HO_594000,iY,iZ,HK,HB⟩:=hrel
  cases gk with
  |zero=>exact absurd HA.out (by simp[dO.l0])
  |succ k1=>
   have H:=HA.out
   clear HA
   simp only[dO.l0]at H
   replace H:=sp H
   rcases H with⟨c8,H⟩|⟨c8,H⟩
   ·skip
    have c8b0:(oD.toList==([]:List UInt8))=true:=beq_iff_eq.mpr c8
    have c8b1:(oD.toList != ([]:List UInt8))=false:=bne_eq_false_iff_eq.mpr c8
    clear c8
    simp only[Option.some.injEq,Prod.mk.injEq]at H
    obtain⟨rfl,rfl,rfl,rfl⟩:=H
    have amZ:=tY.out
    have an0:=tZ.out
    obtain⟨EQ,ER,ES,EU⟩:=c2 iY
    obtain⟨a9j,a9k,a1h⟩:=Kd.R_slice HO_594000.out
    subst a1h
    obtain⟨UJ,UK,a8j,UL⟩:=c2 iZ
    go_wp2
    refine bodyPost_ret (fA rfl _ _ Bc 25 #[.slice a9j jD.length a9k,.int .i64 lF] (0,0) _ rfl (zp iZ) Tryz.underlying25 rfl (by kernel_rfl)) rfl ?_
    exact⟨_,_,ze,(Kd.R_mono (qj (Kd.R_types HO_594000.out iZ.out (by decide))) (fun _ hk=>⟨hk.1.1,hk.1.2⟩)),(Kd.R_mono (qj (Kd.R_types HO_7.out iZ.out (by decide))) (fun _ hk=>⟨hk.1.1,hk.1.2⟩)),zb HB,by repeat(first|(with_reducible first|exact HK.out|apply Kept.alloc|apply Kept.drewN|apply Kept.drew|refine Kept.setCell ?_ (.inr kL.out) _|refine Kept.setCell ?_ (.inr lu.out) _)|exact HK.out)⟩
   ·skip
    have c8b0:(oD.toList==([]:List UInt8))=false:=beq_eq_false_iff_ne.mpr c8
    have c8b1:(oD.toList != ([]:List UInt8))=true:=bne_iff_ne.mpr c8
    obtain⟨⟨I4,OP,E8,E9,Ea,OQ,aDY⟩,A13,H⟩:=ob H
    (try dsimp only at H)
    by_cases c14:aDY=true
    ·subst c14
     rw[if_pos rfl]at H
     have aoV:=ah.mk H
     clear H
     have a1a:=tY.out
     have a1b:=tZ.out
     obtain⟨xu,xw,xA,xB⟩:=c2 iY
     obtain⟨E5,BU,O9⟩:=Kd.R_slice HO_594000.out
     subst O9
     go_upto_if 29 with(first|((with_reducible refine gq 111 rfl ?_);refine gl (some 18) Tryz.func111 #[.agg #[.slice E5 jD.length BU,.int .i64 lF],.string oD] ?_;(with_reducible refine(bS.calls k1 (fun k_=>some k_=(.slice E5 jD.length BU:Value).ownBlock) (.slice E5 jD.length BU) jD lF oD I4 OP E8 E9 Ea OQ true w0 _ ?aN ?aQ A13.out).mono ?_);(case aN=>exact zb HB);(case aQ=>exact Kd.R_tight rfl HO_594000.out);rintro e w19 ⟨agH,rfl,ho0,hb,hkp⟩;refine⟨_,rfl,?_⟩;replace iY:=ah.mk (mZ (zk iY) hkp (fun h_=>h_));replace iZ:=ah.mk (mZ (zk iZ) hkp (fun h_=>h_));have nu:=ah.mk (Kd.R_mono (ok':=fun k_=>(jw k_∨w.heap.size≤k_)∧some k_≠(u7:Value).ownBlock) ho0 (fun k_ OT=>⟨Or.elim OT (fun hs_=>(HO_594000.out.1 k_ (hs_).symm).1) (fun Rs=>(.inr (Nat.le_trans (by first|exact HK.out.1|exact(show Kept w _ (fun _=>False)from by repeat(first|(with_reducible first|exact HK.out|apply Kept.alloc|apply Kept.drewN|apply Kept.drew|refine Kept.setCell ?_ (.inr kL.out) _|refine Kept.setCell ?_ (.inr lu.out) _)|exact HK.out)).1) Rs))),Or.elim OT (fun hs_=>fun e_=>(((HO_7.out).1 k_ e_.symm).2) hs_) (fun Rs=>(Kd.fresh' (Kd.R_lt (zr HO_7)) k_ Rs))⟩));replace HO_7:=ah.mk (Kd.R_mono (ok':=fun k_=>(False∨w.heap.size≤k_)∧some k_≠(agH:Value).ownBlock) (Kd.R_keptB (HO_7.out) hkp (fun _ _ h_=>h_)) (fun k_ OT=>⟨OT.1.1,fun e_=>Or.elim (ho0.1 k_ e_.symm) (fun hs_=>OT.1.2 hs_) (fun Rs=>Nat.not_le.2 OT.2.2 Rs)⟩));replace HK:=ah.mk (Kept.then_ (S:=(fun _=>False)) (by repeat(first|(with_reducible first|exact HK.out|apply Kept.alloc|apply Kept.drewN|apply Kept.drew|refine Kept.setCell ?_ (.inr kL.out) _|refine Kept.setCell ?_ (.inr lu.out) _)|exact HK.out)) hkp (fun _ h_=>h_.elim));replace HB:=ah.mk (hb);clear HO_594000;(try clear hb);(try clear hkp);(try clear ho0))|((with_reducible refine gd 8 rfl ?_);(try(refine ay (by rfl) ?_;dsimp only));refine bx (N:=8) (cs:=#[.slice none 0 0,.int .i64 0]) (t:=25) ?_;intro Dv hg w20 hbox hb;replace HO_7:=ah.mk (Kd.R_below (zr HO_7) hb);replace nu:=ah.mk (Kd.R_below (zr nu) hb);have kC:=ah.mk (hbox);have rZ:=ah.mk ((by rw[hg];exact(by first|exact HK.out.1|exact(show Kept w _ (fun _=>False)from by repeat(first|(with_reducible first|exact HK.out|apply Kept.alloc|apply Kept.drewN|apply Kept.drew|refine Kept.setCell ?_ (.inr kL.out) _|refine Kept.setCell ?_ (.inr lu.out) _)|exact HK.out)).1):w.heap.size≤Dv));replace HK:=ah.mk (Kept.below (S:=(fun _=>False)) (by repeat(first|(with_reducible first|exact HK.out|apply Kept.alloc|apply Kept.drewN|apply Kept.drew|refine Kept.setCell ?_ (.inr kL.out) _|refine Kept.setCell ?_ (.inr lu.out) _)|exact HK.out)) hb);have aoW:=ah.mk ((by rw[hg];exact(aJ (zb HB)):w0.heap.size≤Dv));replace HB:=ah.mk (ai (zb HB) hb);obtain⟨xN,xO⟩:=nb iY hg;replace iY:=kb iY hb;obtain⟨uf,ug⟩:=nb iZ hg;replace iZ:=kb iZ hb;clear hb hbox hg)|((with_reducible refine gd 9 rfl ?_);(try(refine ay (by rfl) ?_;dsimp only));refine bx (N:=9) (cs:=#[.string (⟨#[]⟩:ByteArray),.string (⟨#[]⟩:ByteArray),.bool false]) (t:=89) ?_;intro kD hg w21 hbox hb;replace HO_7:=ah.mk (Kd.R_below (Kd.R_elderB (zr HO_7) kD (Nat.le_of_eq hg.symm)) hb);replace nu:=ah.mk (Kd.R_below (Kd.R_elderB (zr nu) kD (Nat.le_of_eq hg.symm)) hb);have uh:=ah.mk (hbox);have yA:=ah.mk ((by rw[hg];exact(by first|exact HK.out.1|exact(show Kept w _ (fun _=>False)from by repeat(first|(with_reducible first|exact HK.out|apply Kept.alloc|apply Kept.drewN|apply Kept.drew|refine Kept.setCell ?_ (.inr kL.out) _|refine Kept.setCell ?_ (.inr lu.out) _|refine Kept.setCell ?_ (.inr rZ.out) _)|exact HK.out)).1):w.heap.size≤kD));replace HK:=ah.mk (Kept.below (S:=(fun _=>False)) (by repeat(first|(with_reducible first|exact HK.out|apply Kept.alloc|apply Kept.drewN|apply Kept.drew|refine Kept.setCell ?_ (.inr kL.out) _|refine Kept.setCell ?_ (.inr lu.out) _|refine Kept.setCell ?_ (.inr rZ.out) _)|exact HK.out)) hb);have aoX:=ah.mk ((by rw[hg];exact(aJ (zb HB)):w0.heap.size≤kD));replace HB:=ah.mk (ai (zb HB) hb);obtain⟨xP,xQ⟩:=nb iY hg;replace iY:=kb iY hb;obtain⟨uj,ul⟩:=nb iZ hg;replace iZ:=kb iZ hb;obtain⟨xR,xS⟩:=nb kC hg;replace kC:=kb kC hb;clear hb hbox hg;obtain⟨a1z,a1A,aDZ⟩:=Kd.R_slice nu.out;subst aDZ;have aoY:=xO.out;have aoZ:=xN.out;have aNE:=ug.out;have aNF:=uf.out;have acS:=xR.out;have acT:=xS.out;obtain⟨Ku,Kv,Kw,Ky⟩:=c2 kC;have ap0:=xQ.out;have ap1:=xP.out;have aNG:=ul.out;have aNH:=uj.out;obtain⟨JU,JV,JW,JX,JY,JZ⟩:=c3 uh;obtain⟨aE0,aE1,aE2⟩:=Kd.R_slice HO_7.out;subst aE2))
     (try simp only[Act.put,s1,s2,s3])
     have H:=aoV.out
     clear aoV
     replace H:=sp H
     rcases H with⟨c31,H⟩|⟨c31,H⟩
     ·skip
      have c31b0:=decide_eq_true c31
      have c31b1:=decide_eq_true (by omega)
      clear c31
      (first|rw[c31b0]|rw[c31b1]|rw[c31b2]|(simp only[gI,iB];rw[c31b0])|skip)
      obtain⟨aE3,OU⟩:∃y_:List (bf),y_=(([]:List (bf))):=⟨_,rfl⟩
      replace H:(some (([]:List (bf)),0,aE3,false))=some (r1,r2,r3,r4):=by first|(rw[OU];with_reducible exact H)|(have fH:=(Option.bind_some _ _).symm.trans H;rw[OU];with_reducible exact fH)|(have fH:=(Option.bind_some _ _).symm.trans H;with_reducible exact fH)|with_reducible exact H|(rw[OU];exact H)|exact H
      have ado:=ah.mk OU
      clear OU
      simp only[Option.some.injEq,Prod.mk.injEq]at H
      obtain⟨rfl,rfl,rfl,rfl⟩:=H
      go_wp2_with (first|((with_reducible refine gd 31 rfl ?_);(try(refine ay (by rfl) ?_;dsimp only));refine Kd.R_lit iH _ 89 ?hg (N:=31) ?hd (xs:=([]:List (bf))) (inner:=[]) (ok:=fun _=>True) (okp:=fun _=>True) ?hr ?hp (fun _ hk=>hk) trivial (Below.refl _ _) (Nat.le_refl _) (by simp) ?_;(case hd=>rfl);(case hg=>rfl);(case hr=>first|(go_simp;done)|(go_simp;rfl));(case hp=>exact(dm.none _ _));intro aRY w32 Rt hb nL fM;clear nL fM;(first|rw[←ado.out]at Rt|(simp only[Int.reduceToNat]at Rt;rw[←ado.out]at Rt));have ap2:=ah.mk (Kd.R_lower (Kd.R_newB (Kd.R_new' (Kd.R_new' (Kd.R_newM (M:=fun k_=>(False∨w.heap.size≤k_)) Rt (show Kept w _ (fun _=>False)from by repeat(first|(with_reducible first|exact HK.out|apply Kept.alloc|apply Kept.drewN|apply Kept.drew|refine Kept.setCell ?_ (.inr kL.out) _|refine Kept.setCell ?_ (.inr lu.out) _|refine Kept.setCell ?_ (.inr rZ.out) _|refine Kept.setCell ?_ (.inr yA.out) _)|exact HK.out)).1 (fun k_ h_=>.inr h_)) (Kd.R_lt (((Kd.R_mono (Kd.R_mono (qj (Kd.R_mono (Kd.R_types HO_7.out kC.out (by decide)) (fun k_ hk=>(⟨hk,hk.1.2⟩:_∧k_≠kD)))) (fun _ h_=>h_.1)) (fun _ h_=>h_.1)))))) (Kd.R_lt (((Kd.R_mono (Kd.R_mono (qj (Kd.R_mono (Kd.R_types nu.out kC.out (by decide)) (fun k_ hk=>(⟨hk,hk.1.2⟩:_∧k_≠kD)))) (fun _ h_=>h_.1)) (fun _ h_=>h_.1)))))) (g:=kD) (o:=.cells #[.string E8,.string E9,.bool Ea] 89 (0,0)) (zp uh)) (aJ (zb HB)));replace HO_7:=ah.mk (Kd.R_elder' (((Kd.R_mono (Kd.R_mono (qj (Kd.R_mono (Kd.R_types HO_7.out kC.out (by decide)) (fun k_ hk=>(⟨hk,hk.1.2⟩:_∧k_≠kD)))) (fun _ h_=>h_.1)) (fun _ h_=>h_.1)))) (Kd.R_base Rt) hb);replace nu:=ah.mk (Kd.R_elder' (((Kd.R_mono (Kd.R_mono (qj (Kd.R_mono (Kd.R_types nu.out kC.out (by decide)) (fun k_ hk=>(⟨hk,hk.1.2⟩:_∧k_≠kD)))) (fun _ h_=>h_.1)) (fun _ h_=>h_.1)))) (Kd.R_base Rt) hb);replace iY:=ah.mk (dR (g:=IU) (o:=.cells #[.slice E5 jD.length BU,.int .i64 lF] 25 (0,0)) (zp iY) hb);replace iZ:=ah.mk (dR (g:=Bc) (o:=.cells #[.slice none 0 0,.int .i64 qC] 25 (0,0)) (zp iZ) hb);replace kC:=ah.mk (dR (g:=Dv) (o:=.cells #[.slice a1z I4.length a1A,.int .i64 OP] 25 (0,0)) (zp kC) hb);replace uh:=ah.mk (dR (g:=kD) (o:=.cells #[.string E8,.string E9,.bool Ea] 89 (0,0)) (zp uh) hb);replace HK:=ah.mk (Kept.below (S:=(fun _=>False)) (by repeat(first|(with_reducible first|exact HK.out|apply Kept.alloc|apply Kept.drewN|apply Kept.drew|refine Kept.setCell ?_ (.inr kL.out) _|refine Kept.setCell ?_ (.inr lu.out) _|refine Kept.setCell ?_ (.inr rZ.out) _|refine Kept.setCell ?_ (.inr yA.out) _)|exact HK.out)) hb);replace HB:=ah.mk (ai (zb HB) hb);clear hb Rt;have adh:=tZ.out;have adi:=tY.out;have aom:=uf.out;have aon:=ug.out;have a1w:=uj.out;have a1x:=ul.out;obtain⟨Ew,Ey,Ez,EA⟩:=c2 iZ))
      refine bodyPost_ret (fA rfl _ _ Bc 25 #[.slice none 0 0,.int .i64 0] (0,0) _ rfl (zp iZ) Tryz.underlying25 rfl (by kernel_rfl)) rfl ?_
      exact⟨_,_,ze,by first|exact Kd.R_nil _ _ _ _ _|exact Kd.N_nil _ _ _ _ _|exact Kd.V_nil _ _ _ _ _|exact Kd.Q_nil _ _ _ _ _|exact Kd.S_nil _ _ _ _ _,(Kd.R_mono (qj (Kd.R_types ap2.out iZ.out (by decide))) (fun _ hk=>⟨hk.1.1.1.1.1,(by simp[Value.ownBlock])⟩)),zb HB,by repeat(first|(with_reducible first|exact HK.out|apply Kept.alloc|apply Kept.drewN|apply Kept.drew|refine Kept.setCell ?_ (.inr kL.out) _|refine Kept.setCell ?_ (.inr lu.out) _|refine Kept.setCell ?_ (.inr rZ.out) _|refine Kept.setCell ?_ (.inr yA.out) _)|exact HK.out)⟩
     ·skip
      have c31b0:=decide_eq_false c31
      have c31b1:=decide_eq_false (by omega)
      clear c31
      (first|rw[c31b0]|rw[c31b1]|rw[c31b2]|(simp only[gI,iB];rw[c31b0])|skip)
      replace H:=sp H
      rcases H with⟨c38,H⟩|⟨c38,H⟩
      ·skip
       have ap3:=ah.mk c38
       clear c38
       obtain⟨ap4,OV⟩:∃y_:List (bf),y_=(fE++[(⟨E8,E9,Ea⟩:bf)]):=⟨_,rfl⟩
       replace H:(if 0≤OQ then(if OQ≤(oD.size:Int)then(dO.l0 k1 (oD.extract (OQ:Int).toNat oD.size) ap4 I4 OP)else(none))else(none))=some (r1,r2,r3,r4):=by first|(rw[OV];with_reducible exact H)|(have fH:=(Option.bind_some _ _).symm.trans H;rw[OV];with_reducible exact fH)|(have fH:=(Option.bind_some _ _).symm.trans H;with_reducible exact fH)|with_reducible exact H|(rw[OV];exact H)|exact H
       have ap5:=ah.mk OV
       clear OV
       by_cases KG:0≤OQ
       ·rw[if_pos KG]at H
        have c39b0:=eq_true KG
        have c39b1:=decide_eq_true KG
        clear KG
        by_cases c40:OQ≤(oD.size:Int)
        ·rw[if_pos c40]at H
         have c40b0:=eq_true c40
         have c40b1:=decide_eq_true c40
         clear c40
         have H':=ah.mk H
         clear H
         have aNI:=xO.out
         have aNJ:=xN.out
         have acI:=ug.out
         have acJ:=uf.out
         have acK:=xR.out
         have acL:=xS.out
         obtain⟨Vr,Vs,Vt,Vu⟩:=c2 kC
         have amQ:=tY.out
         have amR:=tZ.out
         have aNK:=xP.out
         have aNL:=xQ.out
         obtain⟨ayv,ayw,ayx,ayy⟩:=c2 iY
         have ao2:=ul.out
         have ao3:=uj.out
         obtain⟨a8d,a8e,a8f,a8g,a8h,a8i⟩:=c3 uh
         go_wp2_with (first|((with_reducible refine kY (b:=.append) (xs:=#[.tmp 33,.tmp 35]) rfl ?_);(try(refine ay (by rfl) ?_;dsimp only));at_builtin;refine Kd.R_append iH (w0:=w0) w0.heap.size rfl (.tmp 33) (.tmp 35) 23 89 (.agg #[(.string ⟨#[]⟩),(.string ⟨#[]⟩),(.bool false)]) 40 rfl Tryz.underlying23 yL rfl (by decide) (by omega) (.slice aE0 fE.length aE1) fE (⟨E8,E9,Ea⟩:bf) [.string E8,.string E9,.bool Ea] (fun k_=>(False∨w.heap.size≤k_)∧some k_≠(.slice a1z I4.length a1A:Value).ownBlock∧k_≠kD) (fun _=>False) rfl (by first|(go_simp;done)|(go_simp;rfl)) ?aP (fun _ hk=>hk.elim) ?aF ?aO ?aB ?aS ?aL ?_;(case aP=>exact lK _ _ _ (⟨E8,E9,Ea⟩:bf));(case aB=>exact(zb HB));(case aF=>exact(fun k_ hk=>⟨(.inr (Nat.le_trans (show Kept w _ (fun _=>False)from by repeat(first|(with_reducible first|exact HK.out|apply Kept.alloc|apply Kept.drewN|apply Kept.drew|refine Kept.setCell ?_ (.inr kL.out) _|refine Kept.setCell ?_ (.inr lu.out) _|refine Kept.setCell ?_ (.inr rZ.out) _|refine Kept.setCell ?_ (.inr yA.out) _)|exact HK.out)).1 hk)),Kd.fresh' (Kd.R_lt (((Kd.R_mono (Kd.R_mono (Kd.R_mono (qj (Kd.R_types (Kd.R_mono (Kd.R_types nu.out kC.out (by decide)) (fun k_ hk=>(⟨hk,hk.1.2⟩:_∧k_≠kD))) iY.out (by decide))) (fun _ h_=>h_.1)) (fun _ h_=>h_.1)) (fun _ h_=>h_.1))))) k_ hk,Kd.freshB (g:=kD) (o:=.cells #[.string E8,.string E9,.bool Ea] 89 (0,0)) (zp uh) k_ hk⟩));(case aO=>exact((Kd.R_mono (qj (Kd.R_types (Kd.R_mono (Kd.R_types HO_7.out kC.out (by decide)) (fun k_ hk=>(⟨hk,hk.1.2⟩:_∧k_≠kD))) iY.out (by decide))) (fun _ hk=>⟨hk.1.1.1.1.1,⟨hk.1.1.1.1.2,hk.1.1.1.2⟩⟩))));(case aS=>exact(aJ (zb HB)));(case aL=>have:=ap3.out;omega);intro aRZ w50 ho hb hg hat;rw[←ap5.out]at ho;replace iZ:=ah.mk (jL (g:=Bc) (o:=.cells #[.slice none 0 0,.int .i64 qC] 25 (0,0)) (zp iZ) hg (Kd.R_ne HO_7.out iZ.out (by decide)));replace nu:=ah.mk (Kd.R_after (ok:=(fun k_=>(jw k_∨w.heap.size≤k_)∧k_≠kD)) ((Kd.R_mono (qj (Kd.R_types (Kd.R_mono (Kd.R_types nu.out kC.out (by decide)) (fun k_ hk=>(⟨hk,hk.1.2⟩:_∧k_≠kD))) iY.out (by decide))) (fun _ hk=>⟨⟨hk.1.1.1.1.1,hk.1.1.1.2⟩,hk.1.1.1.1.2⟩))) hg hat);replace iY:=ah.mk (jL (g:=IU) (o:=.cells #[.slice a1z I4.length a1A,.int .i64 OP] 25 (0,0)) (zp iY) hg (Kd.R_ne HO_7.out iY.out (by decide)));replace kC:=ah.mk (jL (g:=Dv) (o:=.cells #[.slice a1z I4.length a1A,.int .i64 OP] 25 (0,0)) (zp kC) hg (Kd.R_ne HO_7.out kC.out (by decide)));replace uh:=ah.mk (jL (g:=kD) (o:=.cells #[.string E8,.string E9,.bool Ea] 89 (0,0)) (zp uh) hg (Kd.R_away HO_7.out (fun _ hk=>hk.2)));replace HB:=ah.mk (hb);replace HK:=ah.mk (Kept.of_grown (S:=(fun _=>False)) hg (by repeat(first|(with_reducible first|exact HK.out|apply Kept.alloc|apply Kept.drewN|apply Kept.drew|refine Kept.setCell ?_ (.inr kL.out) _|refine Kept.setCell ?_ (.inr lu.out) _|refine Kept.setCell ?_ (.inr rZ.out) _|refine Kept.setCell ?_ (.inr yA.out) _)|exact HK.out)) (fun k_ e_=>(HO_7.out.1 k_ e_).1.1));have ap6:=ah.mk (ho);clear HO_7;clear ho hb hg hat))
         go_roundg k1
         case measure=>have:=jd.out;omega
         case rel=>exact⟨(oD.extract (OQ:Int).toNat oD.size),(ap4),(I4),(OP),(qC),(.slice a1z I4.length a1A),zs,H',⟨by have:=jd.out;omega⟩,⟨zq (Kd.R_mono ap6.out (fun _ hk=>⟨hk.1,hk.2.1⟩))⟩,⟨zq (Kd.R_mono nu.out (fun _ hk=>⟨hk.1.1,hk.2⟩))⟩,⟨by exact zk iY⟩,⟨by exact zk iZ⟩,⟨by repeat(first|(with_reducible first|exact HK.out|apply Kept.alloc|apply Kept.drewN|apply Kept.drew|refine Kept.setCell ?_ (.inr kL.out) _|refine Kept.setCell ?_ (.inr lu.out) _|refine Kept.setCell ?_ (.inr rZ.out) _|refine Kept.setCell ?_ (.inr yA.out) _)|exact HK.out)⟩,⟨zb HB⟩⟩
        ·rw[if_neg c40]at H
         exact absurd H (by simp)
       ·rw[if_neg KG]at H
        exact absurd H (by simp)
      ·skip
       exact absurd H (by simp)
    ·replace c14:=Bool.eq_false_iff.mpr c14
     subst c14
     rw[if_neg (show ¬(false=true) by decide)]at H
     obtain⟨aE5,OW⟩:∃y_:List (bf),y_=(([]:List (bf))):=⟨_,rfl⟩
     replace H:(some (([]:List (bf)),0,aE5,false))=some (r1,r2,r3,r4):=by first|(rw[OW];with_reducible exact H)|(have fH:=(Option.bind_some _ _).symm.trans H;rw[OW];with_reducible exact fH)|(have fH:=(Option.bind_some _ _).symm.trans H;with_reducible exact fH)|with_reducible exact H|(rw[OW];exact H)|exact H
     have adp:=ah.mk OW
     clear OW
     simp only[Option.some.injEq,Prod.mk.injEq]at H
     obtain⟨rfl,rfl,rfl,rfl⟩:=H
     have aot:=tY.out
     have aou:=tZ.out
     obtain⟨a9E,a9F,a9G,a9H⟩:=c2 iY
     obtain⟨a1o,a1p,agA⟩:=Kd.R_slice HO_594000.out
     subst agA
     go_wp2_with (first|((with_reducible refine gq 111 rfl ?_);refine gl (some 18) Tryz.func111 #[.agg #[.slice a1o jD.length a1p,.int .i64 lF],.string oD] ?_;(with_reducible refine(bS.calls k1 (fun k_=>some k_=(.slice a1o jD.length a1p:Value).ownBlock) (.slice a1o jD.length a1p) jD lF oD I4 OP E8 E9 Ea OQ false w0 _ ?aN ?aQ A13.out).mono ?_);(case aN=>exact zb HB);(case aQ=>exact Kd.R_tight rfl HO_594000.out);rintro e OM ⟨agH,rfl,ho0,hb,hkp⟩;refine⟨_,rfl,?_⟩;replace iY:=ah.mk (mZ (zk iY) hkp (fun h_=>h_));replace iZ:=ah.mk (mZ (zk iZ) hkp (fun h_=>h_));have nu:=ah.mk (Kd.R_mono (ok':=fun k_=>(jw k_∨w.heap.size≤k_)∧some k_≠(u7:Value).ownBlock) ho0 (fun k_ OT=>⟨Or.elim OT (fun hs_=>(HO_594000.out.1 k_ (hs_).symm).1) (fun Rs=>(.inr (Nat.le_trans (by first|exact HK.out.1|exact(show Kept w _ (fun _=>False)from by repeat(first|(with_reducible first|exact HK.out|apply Kept.alloc|apply Kept.drewN|apply Kept.drew|refine Kept.setCell ?_ (.inr kL.out) _|refine Kept.setCell ?_ (.inr lu.out) _)|exact HK.out)).1) Rs))),Or.elim OT (fun hs_=>fun e_=>(((HO_7.out).1 k_ e_.symm).2) hs_) (fun Rs=>(Kd.fresh' (Kd.R_lt (zr HO_7)) k_ Rs))⟩));replace HO_7:=ah.mk (Kd.R_mono (ok':=fun k_=>(False∨w.heap.size≤k_)∧some k_≠(agH:Value).ownBlock) (Kd.R_keptB (HO_7.out) hkp (fun _ _ h_=>h_)) (fun k_ OT=>⟨OT.1.1,fun e_=>Or.elim (ho0.1 k_ e_.symm) (fun hs_=>OT.1.2 hs_) (fun Rs=>Nat.not_le.2 OT.2.2 Rs)⟩));replace HK:=ah.mk (Kept.then_ (S:=(fun _=>False)) (by repeat(first|(with_reducible first|exact HK.out|apply Kept.alloc|apply Kept.drewN|apply Kept.drew|refine Kept.setCell ?_ (.inr kL.out) _|refine Kept.setCell ?_ (.inr lu.out) _)|exact HK.out)) hkp (fun _ h_=>h_.elim));replace HB:=ah.mk (hb);clear HO_594000;(try clear hb);(try clear hkp);(try clear ho0))|((with_reducible refine gd 8 rfl ?_);(try(refine ay (by rfl) ?_;dsimp only));refine bx (N:=8) (cs:=#[.slice none 0 0,.int .i64 0]) (t:=25) ?_;intro Dv hg w55 hbox hb;replace HO_7:=ah.mk (Kd.R_below (zr HO_7) hb);replace nu:=ah.mk (Kd.R_below (zr nu) hb);have kC:=ah.mk (hbox);have rZ:=ah.mk ((by rw[hg];exact(by first|exact HK.out.1|exact(show Kept w _ (fun _=>False)from by repeat(first|(with_reducible first|exact HK.out|apply Kept.alloc|apply Kept.drewN|apply Kept.drew|refine Kept.setCell ?_ (.inr kL.out) _|refine Kept.setCell ?_ (.inr lu.out) _)|exact HK.out)).1):w.heap.size≤Dv));replace HK:=ah.mk (Kept.below (S:=(fun _=>False)) (by repeat(first|(with_reducible first|exact HK.out|apply Kept.alloc|apply Kept.drewN|apply Kept.drew|refine Kept.setCell ?_ (.inr kL.out) _|refine Kept.setCell ?_ (.inr lu.out) _)|exact HK.out)) hb);have aoW:=ah.mk ((by rw[hg];exact(aJ (zb HB)):w0.heap.size≤Dv));replace HB:=ah.mk (ai (zb HB) hb);obtain⟨xN,xO⟩:=nb iY hg;replace iY:=kb iY hb;obtain⟨uf,ug⟩:=nb iZ hg;replace iZ:=kb iZ hb;clear hb hbox hg)|((with_reducible refine gd 9 rfl ?_);(try(refine ay (by rfl) ?_;dsimp only));refine bx (N:=9) (cs:=#[.string (⟨#[]⟩:ByteArray),.string (⟨#[]⟩:ByteArray),.bool false]) (t:=89) ?_;intro kD hg w56 hbox hb;replace HO_7:=ah.mk (Kd.R_below (Kd.R_elderB (zr HO_7) kD (Nat.le_of_eq hg.symm)) hb);replace nu:=ah.mk (Kd.R_below (Kd.R_elderB (zr nu) kD (Nat.le_of_eq hg.symm)) hb);have uh:=ah.mk (hbox);have yA:=ah.mk ((by rw[hg];exact(by first|exact HK.out.1|exact(show Kept w _ (fun _=>False)from by repeat(first|(with_reducible first|exact HK.out|apply Kept.alloc|apply Kept.drewN|apply Kept.drew|refine Kept.setCell ?_ (.inr kL.out) _|refine Kept.setCell ?_ (.inr lu.out) _|refine Kept.setCell ?_ (.inr rZ.out) _)|exact HK.out)).1):w.heap.size≤kD));replace HK:=ah.mk (Kept.below (S:=(fun _=>False)) (by repeat(first|(with_reducible first|exact HK.out|apply Kept.alloc|apply Kept.drewN|apply Kept.drew|refine Kept.setCell ?_ (.inr kL.out) _|refine Kept.setCell ?_ (.inr lu.out) _|refine Kept.setCell ?_ (.inr rZ.out) _)|exact HK.out)) hb);have aoX:=ah.mk ((by rw[hg];exact(aJ (zb HB)):w0.heap.size≤kD));replace HB:=ah.mk (ai (zb HB) hb);obtain⟨xP,xQ⟩:=nb iY hg;replace iY:=kb iY hb;obtain⟨uj,ul⟩:=nb iZ hg;replace iZ:=kb iZ hb;obtain⟨xR,xS⟩:=nb kC hg;replace kC:=kb kC hb;clear hb hbox hg;obtain⟨anK,anL,agD⟩:=Kd.R_slice nu.out;subst agD;have aNM:=xO.out;have aNN:=xN.out;have ao9:=ug.out;have aoa:=uf.out;have aob:=xR.out;have aoc:=xS.out;obtain⟨a9u,a9v,a9w,a9x⟩:=c2 kC;have aNO:=xQ.out;have aNP:=xP.out;have aNQ:=ul.out;have aNR:=uj.out;obtain⟨ayz,ayA,ayB,ayC,ayD,ayE⟩:=c3 uh)|((with_reducible refine gd 31 rfl ?_);(try(refine ay (by rfl) ?_;dsimp only));refine Kd.R_lit iH _ 89 ?hg (N:=31) ?hd (xs:=([]:List (bf))) (inner:=[]) (ok:=fun _=>True) (okp:=fun _=>True) ?hr ?hp (fun _ hk=>hk) trivial (Below.refl _ _) (Nat.le_refl _) (by simp) ?_;(case hd=>rfl);(case hg=>rfl);(case hr=>first|(go_simp;done)|(go_simp;rfl));(case hp=>exact(dm.none _ _));intro aS0 w65 Ru hb nL fM;clear nL fM;(first|rw[←adp.out]at Ru|(simp only[Int.reduceToNat]at Ru;rw[←adp.out]at Ru));have ap7:=ah.mk (Kd.R_lower (Kd.R_newB (Kd.R_new' (Kd.R_new' (Kd.R_newM (M:=fun k_=>(False∨w.heap.size≤k_)) Ru (show Kept w _ (fun _=>False)from by repeat(first|(with_reducible first|exact HK.out|apply Kept.alloc|apply Kept.drewN|apply Kept.drew|refine Kept.setCell ?_ (.inr kL.out) _|refine Kept.setCell ?_ (.inr lu.out) _|refine Kept.setCell ?_ (.inr rZ.out) _|refine Kept.setCell ?_ (.inr yA.out) _)|exact HK.out)).1 (fun k_ h_=>.inr h_)) (Kd.R_lt (((Kd.R_mono (Kd.R_mono (qj (Kd.R_mono (Kd.R_types HO_7.out kC.out (by decide)) (fun k_ hk=>(⟨hk,hk.1.2⟩:_∧k_≠kD)))) (fun _ h_=>h_.1)) (fun _ h_=>h_.1)))))) (Kd.R_lt (((Kd.R_mono (Kd.R_mono (qj (Kd.R_mono (Kd.R_types nu.out kC.out (by decide)) (fun k_ hk=>(⟨hk,hk.1.2⟩:_∧k_≠kD)))) (fun _ h_=>h_.1)) (fun _ h_=>h_.1)))))) (g:=kD) (o:=.cells #[.string E8,.string E9,.bool Ea] 89 (0,0)) (zp uh)) (aJ (zb HB)));replace HO_7:=ah.mk (Kd.R_elder' (((Kd.R_mono (Kd.R_mono (qj (Kd.R_mono (Kd.R_types HO_7.out kC.out (by decide)) (fun k_ hk=>(⟨hk,hk.1.2⟩:_∧k_≠kD)))) (fun _ h_=>h_.1)) (fun _ h_=>h_.1)))) (Kd.R_base Ru) hb);replace nu:=ah.mk (Kd.R_elder' (((Kd.R_mono (Kd.R_mono (qj (Kd.R_mono (Kd.R_types nu.out kC.out (by decide)) (fun k_ hk=>(⟨hk,hk.1.2⟩:_∧k_≠kD)))) (fun _ h_=>h_.1)) (fun _ h_=>h_.1)))) (Kd.R_base Ru) hb);replace iY:=ah.mk (dR (g:=IU) (o:=.cells #[.slice a1o jD.length a1p,.int .i64 lF] 25 (0,0)) (zp iY) hb);replace iZ:=ah.mk (dR (g:=Bc) (o:=.cells #[.slice none 0 0,.int .i64 qC] 25 (0,0)) (zp iZ) hb);replace kC:=ah.mk (dR (g:=Dv) (o:=.cells #[.slice anK I4.length anL,.int .i64 OP] 25 (0,0)) (zp kC) hb);replace uh:=ah.mk (dR (g:=kD) (o:=.cells #[.string E8,.string E9,.bool Ea] 89 (0,0)) (zp uh) hb);replace HK:=ah.mk (Kept.below (S:=(fun _=>False)) (by repeat(first|(with_reducible first|exact HK.out|apply Kept.alloc|apply Kept.drewN|apply Kept.drew|refine Kept.setCell ?_ (.inr kL.out) _|refine Kept.setCell ?_ (.inr lu.out) _|refine Kept.setCell ?_ (.inr rZ.out) _|refine Kept.setCell ?_ (.inr yA.out) _)|exact HK.out)) hb);replace HB:=ah.mk (ai (zb HB) hb);clear hb Ru;obtain⟨ayF,ayG,ayH,ayI⟩:=c2 iZ))
     refine bodyPost_ret (fA rfl _ _ Bc 25 #[.slice none 0 0,.int .i64 0] (0,0) _ rfl (zp iZ) Tryz.underlying25 rfl (by kernel_rfl)) rfl ?_
     exact⟨_,_,ze,by first|exact Kd.R_nil _ _ _ _ _|exact Kd.N_nil _ _ _ _ _|exact Kd.V_nil _ _ _ _ _|exact Kd.Q_nil _ _ _ _ _|exact Kd.S_nil _ _ _ _ _,(Kd.R_mono (qj (Kd.R_types ap7.out iZ.out (by decide))) (fun _ hk=>⟨hk.1.1.1.1.1,(by simp[Value.ownBlock])⟩)),zb HB,by repeat(first|(with_reducible first|exact HK.out|apply Kept.alloc|apply Kept.drewN|apply Kept.drew|refine Kept.setCell ?_ (.inr kL.out) _|refine Kept.setCell ?_ (.inr lu.out) _|refine Kept.setCell ?_ (.inr rZ.out) _|refine Kept.setCell ?_ (.inr yA.out) _)|exact HK.out)⟩
def bD.l0:Nat→Int→List Int→Int→List (bf)→Int→Option ((List (bf))×Int×Int)
 |0,_,_,_,_,_=>none
 |k+1,x4,x1000,kH,xU,F5=>if x4>0 then((eU.f k x1000 kH).bind fun Dw=>((eH.f k Dw.1 Dw.2.1 Dw.2.2.1).bind fun a9O=>(if a9O=true then((dV.f k xU F5 Dw.1 Dw.2.1 Dw.2.2.1).bind fun adq=>(bD.l0 k (wrap64 (x4-1)) x1000 Dw.2.2.2 adq.1 adq.2))else(bD.l0 k (wrap64 (x4-1)) x1000 Dw.2.2.2 xU F5))))else((au.f k x1000 kH 24).bind fun OX=>(if OX.1=0 then((some (([(-1),65,3]:List Int):List Int)).bind fun OY=>((au.f k x1000 OX.2 3).bind fun Bd=>(if 0≤Bd.1 then(if Bd.1<(OY.length:Int)then(some (xU,rd OY Bd.1,Bd.2))else(none))else(none))))else(if OX.1=1 then((eU.f k x1000 OX.2).bind fun VO=>((eU.f k x1000 VO.2.2.2).bind fun VP=>((eU.f k x1000 VP.2.2.2).bind fun VQ=>((some (([(⟨VO.1,VO.2.1,VO.2.2.1⟩:bf),(⟨VP.1,VP.2.1,VP.2.2.1⟩:bf),(⟨VQ.1,VQ.2.1,VQ.2.2.1⟩:bf)]:List (bf)):List (bf))).bind fun La=>(if xU.length+La.length<3518437208883 then(some ((xU++La),F5,VQ.2.2.2))else(none))))))else(some (xU,F5,OX.2)))))
def bD.f(k:Nat)(bN:List Int)(gy:Int):Option ((List (bf))×Int×Int):=(some (([64,64,40,20,0]:List Int):List Int)).bind fun yX=>((au.f k bN gy 5).bind fun nX=>(if 0≤nX.1 then(if nX.1<(yX.length:Int)then((au.f k bN nX.2 7).bind fun wL=>(bD.l0 k wL.1 bN wL.2 (([]:List (bf))) (rd yX nX.1)))else(none))else(none)))
theorem bD.mono_l:∀k,(∀y0 y1 y2 y3 y4,gM (bD.l0 k y0 y1 y2 y3 y4) (bD.l0 (k+1) y0 y1 y2 y3 y4))
 |0=>fun _ _ _ _ _ r h=>by simp[bD.l0]at h
 |k+1=>by
  have mW:=bD.mono_l k
  ·intro y0 y1 y2 y3 y4
   unfold bD.l0
   have m0:=@eH.mono
   have m1:=@dV.mono
   have m2:=@au.mono
   have m3:=@eU.mono
   exact zm
theorem bD.mono:∀a0 a1 k,gM (bD.f k a0 a1) (bD.f (k+1) a0 a1):=by
 intro a0 a1 k
 have mW:=bD.mono_l k
 unfold bD.f
 have m0:=@eH.mono
 have m1:=@dV.mono
 have m2:=@au.mono
 have m3:=@eU.mono
 exact zm
def bD.T12:Bool×List (List Nat×List Nat):=(true,[([],[]),([0],[0]),([],[]),([2],[2]),([],[]),([4,3],[4]),([],[]),([6,5],[6]),([3,5,7],[3,5,7]),([1,8,7],[1,8]),([0,1,2,3,4,5,6,7,8,9],[]),([10,9,9,0,1,2,3,4,5,6,7,8,9],[9,10])])
def bD.B12:List Nat:=[0,1,0,4,0,28,0,124,252,511,1023,2047]
theorem bD.tab12:jG .any (opsOf Tryz.f48 12)=bD.T12:=by kernel_rfl
theorem bD.bits12:fQ bD.T12.2 bD.B12=true:=by kernel_rfl
theorem bD.calls(k:Nat)(g:Nat)(bN:List Int)(gy:Int)(r1:List (bf))(r2:Int)(r3:Int)(w0 w:World)(hI:aM w0 w g bN gy)(hB:Below w0.heap.size w0 w)(h:bD.f k bN gy=some (r1,r2,r3)):
 Calls Tryz.prog 48 #[.pointer (some ⟨g,0,none⟩)] w fun e w'=>∃vM:Value,e= .returned (.agg #[vM,.int .i64 r2])∧Kd.R iH 89 w' w.heap.size (fun _=>True) vM r1∧aM w0 w' g bN r3∧Below w0.heap.size w0 w'∧ax w w' g none:=by
 have Ab:=Tryz.underlying25
 have sN:=Tryz.underlying89
 have HI0:=ah.mk hI
 have HK:=ah.mk (ax.refl w g none)
 have HL:=ah.mk hB.size
 clear hI
 have HW0:=ah.mk hB.size
 have HB:=ah.mk hB
 clear hB
 have H:((some (([64,64,40,20,0]:List Int):List Int)).bind fun yX=>((au.f k bN gy 5).bind fun nX=>(if 0≤nX.1 then(if nX.1<(yX.length:Int)then((au.f k bN nX.2 7).bind fun wL=>(bD.l0 k wL.1 bN wL.2 (([]:List (bf))) (rd yX nX.1)))else(none))else(none))))=some (r1,r2,r3):=h
 clear h
 obtain⟨a1B,OZ⟩:∃y_:List (bf),y_=(([]:List (bf))):=⟨_,rfl⟩
 replace H:((some (([64,64,40,20,0]:List Int):List Int)).bind fun yX=>((au.f k bN gy 5).bind fun nX=>(if 0≤nX.1 then(if nX.1<(yX.length:Int)then((au.f k bN nX.2 7).bind fun wL=>(bD.l0 k wL.1 bN wL.2 a1B (rd yX nX.1)))else(none))else(none))))=some (r1,r2,r3):=by first|(rw[OZ];with_reducible exact H)|(have fH:=(Option.bind_some _ _).symm.trans H;rw[OZ];with_reducible exact fH)|(have fH:=(Option.bind_some _ _).symm.trans H;with_reducible exact fH)|with_reducible exact H|(rw[OZ];exact H)|exact H
 have adr:=ah.mk OZ
 clear OZ
 obtain⟨yX,P5⟩:∃y_:List Int,y_=(([64,64,40,20,0]:List Int)):=⟨_,rfl⟩
 replace H:((au.f k bN gy 5).bind fun nX=>(if 0≤nX.1 then(if nX.1<(yX.length:Int)then((au.f k bN nX.2 7).bind fun wL=>(bD.l0 k wL.1 bN wL.2 a1B (rd yX nX.1)))else(none))else(none)))=some (r1,r2,r3):=by first|(rw[P5];with_reducible exact H)|(have fH:=(Option.bind_some _ _).symm.trans H;rw[P5];with_reducible exact fH)|(have fH:=(Option.bind_some _ _).symm.trans H;with_reducible exact fH)|with_reducible exact H|(rw[P5];exact H)|exact H
 have ads:=ah.mk P5
 clear P5
 obtain⟨⟨Rv,XQ⟩,A2,H⟩:=ob H
 (try dsimp only at H)
 replace H:=sp H
 rcases H with⟨c3,H⟩|⟨c3,H⟩
 ·skip
  have c3b0:=decide_eq_true c3
  clear c3
  by_cases c4:Rv<(yX.length:Int)
  ·rw[if_pos c4]at H
   have c4b0:=decide_eq_true c4
   clear c4
   obtain⟨⟨ap8,ap9⟩,A5,H⟩:=ob H
   (try dsimp only at H)
   have H':=ah.mk H
   clear H
   go_enter Tryz.func48,Tryz.ntmps48
   go_wp2_with (first|((with_reducible refine gd 2 rfl ?_);refine bx (N:=2) (cs:=#[.slice none 0 0,.int .i64 0]) (t:=25) ?_;intro nO hg w6 hbox hb;replace HB:=ah.mk (ai (gL HB) hb);have fU:=ah.mk (hbox);have aNS:=ah.mk ((by rw[hg];exact(gG (w:=w) (g:=g) (row:=none) (zh HK)):w.heap.size≤nO));have aNT:=ah.mk ((Nat.le_trans HW0.out (by rw[hg];exact(gG (w:=w) (g:=g) (row:=none) (zh HK)):w.heap.size≤nO):w0.heap.size≤nO));replace HK:=ah.mk (ax.trans (zh HK) (ax.of_below hb g none) (.inl rfl));have Lb:=ah.mk ((by rw[hg];exact Nat.ne_of_lt (aM.lt (show aM w0 _ g bN gy from eF HI0)):g≠nO));have mV:=ah.mk ((by rw[hg];exact Nat.ne_of_gt (aM.lt (show aM w0 _ g bN gy from eF HI0)):nO≠g));replace HI0:=ah.mk (aM.below (eF HI0) hb);clear hb hbox hg)|((with_reducible refine gd 6 rfl ?_);refine Kd.R_lit iH _ 89 ?hg (N:=6) ?hd (xs:=([]:List (bf))) (inner:=[]) (ok:=fun _=>True) (okp:=fun _=>True) ?hr ?hp (fun _ hk=>hk) trivial (Below.refl _ _) (Nat.le_refl _) (by simp) ?_;(case hd=>rfl);(case hg=>rfl);(case hr=>first|(go_simp;done)|(go_simp;rfl));(case hp=>exact(dm.none _ _));intro aS2 w7 ho8 hb nL fM;clear nL fM;(first|rw[←adr.out]at ho8|(simp only[Int.reduceToNat]at ho8;rw[←adr.out]at ho8));have yB:=ah.mk (Kd.R_lower ho8 (gG (w:=w) (g:=g) (row:=none) (zh HK)));replace HI0:=ah.mk (aM.below (eF HI0) hb);replace fU:=kb fU hb;replace HK:=ah.mk (ax.trans (zh HK) (ax.of_below hb g none) (.inl rfl));replace HB:=ah.mk (ai (gL HB) hb);clear hb ho8)|((with_reducible refine gd 7 rfl ?_);refine Kd.R_lit (Kd.int .i64) _ 3 ?hg (N:=7) ?hd (xs:=([64,64,40,20,0]:List Int)) (inner:=[.int .i64 64,.int .i64 64,.int .i64 40,.int .i64 20,.int .i64 0]) (ok:=fun _=>True) (okp:=fun _=>True) ?hr ?hp (fun _ hk=>hk) trivial (Below.refl _ _) (Nat.le_refl _) (by simp) ?_;(case hd=>rfl);(case hg=>rfl);(case hr=>first|(go_simp;done)|(go_simp;rfl));(case hp=>exact(dm.one (show Kd.M (Kd.int .i64) _ _ _ 64 [.int .i64 64]from rfl) (dm.one (show Kd.M (Kd.int .i64) _ _ _ 64 [.int .i64 64]from rfl) (dm.one (show Kd.M (Kd.int .i64) _ _ _ 40 [.int .i64 40]from rfl) (dm.one (show Kd.M (Kd.int .i64) _ _ _ 20 [.int .i64 20]from rfl) (dm.one (show Kd.M (Kd.int .i64) _ _ _ 0 [.int .i64 0]from rfl) (dm.none _ _)))))));intro aS3 w9 a1C hb nL fM;clear nL fM;(first|rw[←ads.out]at a1C|(simp only[Int.reduceToNat]at a1C;rw[←ads.out]at a1C));replace yB:=ah.mk (Kd.R_below (zr yB) hb);have Dx:=ah.mk (Kd.R_lower a1C (gG (w:=w) (g:=g) (row:=none) (zh HK)));replace HI0:=ah.mk (aM.below (eF HI0) hb);replace fU:=kb fU hb;replace HK:=ah.mk (ax.trans (zh HK) (ax.of_below hb g none) (.inl rfl));replace HB:=ah.mk (ai (gL HB) hb);clear hb a1C)|((with_reducible refine gq 22 rfl ?_);refine gl (some 9) Tryz.func22 #[.pointer (some ⟨g,0,none⟩),.int .i64 5] ?_;(with_reducible refine(au.calls k g bN gy 5 Rv XQ w0 _ ?aN ?aQ A2.out).mono ?_);(case aN=>exact eF HI0);(case aQ=>exact gL HB);rintro e w11 ⟨rfl,hi,hb,hk⟩;refine⟨_,rfl,?_⟩;replace fU:=ah.mk (ax.blk hk (g':=nO) (o:=.cells #[.slice none 0 0,.int .i64 0] 25 (0,0)) (zk fU) mV.out (by simp));replace yB:=ah.mk (Kd.R_mono (Kd.R_keep (aM.apart (show aM w0 _ g bN gy from eF HI0) (zr yB) (by decide)) hk (fun _ h=>h.2)) (fun _ h=>h.1));replace Dx:=ah.mk (Kd.R_mono (Kd.R_keep (aM.apart (show aM w0 _ g bN gy from eF HI0) (zr Dx) (by decide)) hk (fun _ h=>h.2)) (fun _ h=>h.1));replace HK:=ah.mk (ax.trans (zh HK) hk (.inl rfl));replace HB:=ah.mk (hb);replace HI0:=ah.mk (hi);(try clear hb);(try clear hk);(try clear hi);obtain⟨aS4,aS5,aE6⟩:=Kd.R_slice Dx.out;subst aE6;have a9P:0≤(Rv:Int):=of_decide_eq_true za;have a9Q:Rv<(yX.length:Int):=of_decide_eq_true za;obtain⟨aNU,aE7,a9R⟩:=Kd.at_int (Kd.R_reads' Dx.out).2.2 Rv a9P a9Q;cases aE7;replace a9P:=eq_true a9P;replace a9Q:=eq_true a9Q;obtain⟨a9S,a9T,agI⟩:=Kd.R_slice yB.out;subst agI)|((with_reducible refine gd 3 rfl ?_);refine bx (N:=3) (cs:=#[.slice none 0 0,.int .i64 0]) (t:=25) ?_;intro nY hg DX hbox hb;replace yB:=ah.mk (Kd.R_below (zr yB) hb);replace Dx:=ah.mk (Kd.R_below (zr Dx) hb);replace HB:=ah.mk (ai (gL HB) hb);have fu:=ah.mk (hbox);have aNV:=ah.mk ((by rw[hg];exact(gG (w:=w) (g:=g) (row:=none) (zh HK)):w.heap.size≤nY));have aNW:=ah.mk ((Nat.le_trans HW0.out (by rw[hg];exact(gG (w:=w) (g:=g) (row:=none) (zh HK)):w.heap.size≤nY):w0.heap.size≤nY));replace HK:=ah.mk (ax.trans (zh HK) (ax.of_below hb g none) (.inl rfl));obtain⟨qD,qE⟩:=nb fU hg;replace fU:=kb fU hb;have Be:=ah.mk ((by rw[hg];exact Nat.ne_of_lt (aM.lt (show aM w0 _ g bN XQ from eF HI0)):g≠nY));have lQ:=ah.mk ((by rw[hg];exact Nat.ne_of_gt (aM.lt (show aM w0 _ g bN XQ from eF HI0)):nY≠g));replace HI0:=ah.mk (aM.below (eF HI0) hb);clear hb hbox hg;have aof:=qE.out;have aog:=qD.out;have a1a:=lQ.out;have a1b:=Be.out;obtain⟨xu,xw,xA,xB⟩:=c2 fu)|((with_reducible refine gq 22 rfl ?_);refine gl (some 14) Tryz.func22 #[.pointer (some ⟨g,0,none⟩),.int .i64 7] ?_;(with_reducible refine(au.calls k g bN XQ 7 ap8 ap9 w0 _ ?aN ?aQ A5.out).mono ?_);(case aN=>exact eF HI0);(case aQ=>exact gL HB);rintro e UM ⟨rfl,hi,hb,hk⟩;refine⟨_,rfl,?_⟩;replace fU:=ah.mk (ax.blk hk (g':=nO) (o:=.cells #[.slice none 0 0,.int .i64 0] 25 (0,0)) (zp fU) mV.out (by simp));replace yB:=ah.mk (Kd.R_mono (Kd.R_keep (aM.apart (show aM w0 _ g bN XQ from eF HI0) (((Kd.R_mono (qj (Kd.R_types yB.out fu.out (by decide))) (fun _ h_=>h_.1)))) (by decide)) hk (fun _ h=>h.2)) (fun _ h=>h.1));replace Dx:=ah.mk (Kd.R_mono (Kd.R_keep (aM.apart (show aM w0 _ g bN XQ from eF HI0) (((Kd.R_mono (qj (Kd.R_types Dx.out fu.out (by decide))) (fun _ h_=>h_.1)))) (by decide)) hk (fun _ h=>h.2)) (fun _ h=>h.1));replace fu:=ah.mk (ax.blk hk (g':=nY) (o:=.cells #[.slice a9S a1B.length a9T,.int .i64 (rd yX Rv)] 25 (0,0)) (zp fu) lQ.out (by simp));replace HK:=ah.mk (ax.trans (zh HK) hk (.inl rfl));replace HB:=ah.mk (hb);replace HI0:=ah.mk (hi);(try clear hb);(try clear hk);(try clear hi)))
   go_loopg [4] k (fun kq v4 w'=>∃(eB:Int)(iD:Int)(jE:List (bf))(gQ:Int)(kE:Value),v4= .int .i64 eB∧ah (bD.l0 kq eB bN iD jE gQ=some (r1,r2,r3))∧ah (kq≤k)∧ah (Kd.R iH 89 w' w.heap.size (fun _=>True) kE jE)∧ah (w'.heap[nO]?=some (.cells #[(.slice none 0 0),.int .i64 0] 25 (0,0)))∧ah (w'.heap[nY]?=some (.cells #[kE,.int .i64 gQ] 25 (0,0)))∧ah (aM w0 w' g bN iD)∧ah (ax w w' g none)∧ah (Below w0.heap.size w0 w'))
   case atStart=>exact⟨(ap8),(ap9),(a1B),(rd yX Rv),(.slice a9S a1B.length a9T),zs,H',⟨Nat.le_refl _⟩,⟨by exact zr yB⟩,⟨by exact zk fU⟩,⟨by exact zk fu⟩,⟨eF HI0⟩,⟨zh HK⟩,⟨gL HB⟩⟩
   case round=>
    clear H'
    try clear c1
    try clear c2
    try clear p2
    try clear c3
    try clear c3b0
    try clear c4
    try clear c4b0
    try clear p8
    try clear q8
    try clear hx8
    try clear c15
    try clear c16
    try clear xu
    try clear xw
    try clear xA
    try clear xB
    try clear a9R
    try clear a9P
    try clear a9Q
    obtain⟨eB,iD,jE,gQ,kE,rfl,HA,jd,HO_847000,fU,fu,HI0,HK,HB⟩:=hrel
    cases gk with
    |zero=>exact absurd HA.out (by simp[bD.l0])
    |succ k1=>
     have H:=HA.out
     clear HA
     simp only[bD.l0]at H
     by_cases c19:eB>0
     ·rw[if_pos c19]at H
      have c19b0:=decide_eq_true c19
      clear c19
      obtain⟨⟨Rw,Rx,Ry,XR⟩,A20,H⟩:=ob H
      (try dsimp only at H)
      obtain⟨a9O,A21,H⟩:=ob H
      (try dsimp only at H)
      have a1j:=ah.mk H
      clear H
      go_upto_if 22 with(first|((with_reducible refine gq 72 rfl ?_);refine gl (some 20) Tryz.func72 #[.pointer (some ⟨g,0,none⟩)] ?_;(with_reducible refine(eU.calls k1 g bN iD Rw Rx Ry XR w0 _ ?aN ?aQ A20.out).mono ?_);(case aN=>exact eF HI0);(case aQ=>exact gL HB);rintro e w23 ⟨rfl,hi,hb,hk⟩;refine⟨_,rfl,?_⟩;replace HO_847000:=ah.mk (Kd.R_mono (Kd.R_keep (aM.apart (show aM w0 _ g bN iD from eF HI0) (zr HO_847000) (by decide)) hk (fun _ h=>h.2)) (fun _ h=>h.1));replace fU:=ah.mk (ax.blk hk (g':=nO) (o:=.cells #[.slice none 0 0,.int .i64 0] 25 (0,0)) (zk fU) mV.out (by simp));replace fu:=ah.mk (ax.blk hk (g':=nY) (o:=.cells #[kE,.int .i64 gQ] 25 (0,0)) (zk fu) lQ.out (by simp));replace HK:=ah.mk (ax.trans (zh HK) hk (.inl rfl));replace HB:=ah.mk (hb);replace HI0:=ah.mk (hi);(try clear hb);(try clear hk);(try clear hi))|((with_reducible refine gd 5 rfl ?_);refine bx (N:=5) (cs:=#[.string (⟨#[]⟩:ByteArray),.string (⟨#[]⟩:ByteArray),.bool false]) (t:=89) ?_;intro wM hg w24 hbox hb;replace HO_847000:=ah.mk (Kd.R_below (Kd.R_elderB (zr HO_847000) wM (Nat.le_of_eq hg.symm)) hb);replace HB:=ah.mk (ai (gL HB) hb);have Gm:=ah.mk (hbox);have aNX:=ah.mk ((by rw[hg];exact(gG (w:=w) (g:=g) (row:=none) (zh HK)):w.heap.size≤wM));have aNY:=ah.mk ((Nat.le_trans HW0.out (by rw[hg];exact(gG (w:=w) (g:=g) (row:=none) (zh HK)):w.heap.size≤wM):w0.heap.size≤wM));replace HK:=ah.mk (ax.trans (zh HK) (ax.of_below hb g none) (.inl rfl));obtain⟨IV,IW⟩:=nb fU hg;replace fU:=kb fU hb;obtain⟨IX,IY⟩:=nb fu hg;replace fu:=kb fu hb;have VR:=ah.mk ((by rw[hg];exact Nat.ne_of_lt (aM.lt (show aM w0 _ g bN XR from eF HI0)):g≠wM));have VS:=ah.mk ((by rw[hg];exact Nat.ne_of_gt (aM.lt (show aM w0 _ g bN XR from eF HI0)):wM≠g));replace HI0:=ah.mk (aM.below (eF HI0) hb);clear hb hbox hg;have acS:=IW.out;have acT:=IV.out;have aNZ:=IY.out;have aO0:=IX.out;have ap0:=VS.out;have ap1:=VR.out;obtain⟨ayJ,ayK,ayL,ayM,ayN,ayO⟩:=c3 Gm)|((with_reducible refine gq 56 rfl ?_);refine gl (some 22) Tryz.func56 #[.agg #[.string Rw,.string Rx,.bool Ry]] ?_;(with_reducible refine(eH.calls k1 Rw Rx Ry a9O _ A21.out).mono ?_);rintro e w29 ⟨rfl,hb⟩;refine⟨_,rfl,?_⟩;replace HO_847000:=ah.mk (Kd.R_below (((Kd.R_mono (qj (Kd.R_mono HO_847000.out (fun k_ hk=>(⟨hk,hk.2⟩:_∧k_≠wM)))) (fun _ h_=>h_.1)))) hb);replace fU:=ah.mk (dR (g:=nO) (o:=.cells #[.slice none 0 0,.int .i64 0] 25 (0,0)) (zp fU) hb);replace fu:=ah.mk (dR (g:=nY) (o:=.cells #[kE,.int .i64 gQ] 25 (0,0)) (zp fu) hb);replace HI0:=ah.mk (aM.below (show aM w0 (((w24.setCell ⟨wM,0,none⟩ (.string Rw)).setCell ⟨wM,1,none⟩ (.string Rx)).setCell ⟨wM,2,none⟩ (.bool Ry)) g bN XR from eF HI0) hb);replace Gm:=ah.mk (dR (g:=wM) (o:=.cells #[.string Rw,.string Rx,.bool Ry] 89 (0,0)) (zp Gm) hb);replace HK:=ah.mk (ax.trans (zh HK) (ax.of_below hb g none) (.inl rfl));replace HB:=ah.mk (ai (gL HB) hb);(try clear hb)))
      (try simp only[Act.put,s1,s2,s3])
      have H:=a1j.out
      clear a1j
      by_cases R7:a9O=true
      ·subst R7
       rw[if_pos rfl]at H
       obtain⟨⟨agJ,apa⟩,A31,H⟩:=ob H
       (try dsimp only at H)
       have H':=ah.mk H
       clear H
       have acG:=qE.out
       have acH:=qD.out
       have apb:=IX.out
       have apc:=IY.out
       have adh:=lQ.out
       have adi:=Be.out
       obtain⟨K5,K6,K7,K8⟩:=c2 fu
       have a1w:=IW.out
       have a1x:=IV.out
       have Vp:=VS.out
       have Vq:=VR.out
       obtain⟨zT,zU,zV,zX,zY,zZ⟩:=c3 Gm
       obtain⟨agK,agL,a9U⟩:=Kd.R_slice HO_847000.out
       subst a9U
       go_wp2_with (first|((with_reducible refine gq 73 rfl ?_);refine gl (some 25) Tryz.func73 #[.agg #[.slice agK jE.length agL,.int .i64 gQ],.agg #[.string Rw,.string Rx,.bool Ry]] ?_;(with_reducible refine(dV.calls k1 _ _ jE gQ Rw Rx Ry agJ apa _ ?aN ?aQ A31.out).mono ?_);(case aN=>exact zc (Kd.R_reads' HO_847000.out).2.2);(case aQ=>exact(Kd.R_reads' HO_847000.out).2.1);rintro e w40 ⟨aS7,rfl,ho0,hb⟩;refine⟨_,rfl,?_⟩;have adt:=ah.mk (Kd.R_lower (Kd.R_newB (Kd.R_new' ho0 (Kd.R_lt (zr HO_847000))) (zk Gm)) (gG (w:=w) (g:=g) (row:=none) (zh HK)));replace HO_847000:=ah.mk (Kd.R_elder' (zr HO_847000) (Kd.R_base ho0) hb);replace fU:=kb fU hb;replace fu:=kb fu hb;replace HI0:=ah.mk (aM.below (eF HI0) hb);replace Gm:=kb Gm hb;replace HK:=ah.mk (ax.trans (zh HK) (ax.of_below hb g none) (.inl rfl));replace HB:=ah.mk (ai (gL HB) hb);(try clear hb);(try clear ho0);obtain⟨aE8,aE9,aEa⟩:=Kd.R_slice adt.out;subst aEa;obtain⟨a8s,a8t,a8u,a8v⟩:=c2 fu))
       go_roundg k1
       case measure=>have:=jd.out;omega
       case rel=>exact⟨(wrap64 (eB-1)),(XR),(agJ),(apa),(.slice aE8 agJ.length aE9),zs,H',⟨by have:=jd.out;omega⟩,⟨(Kd.R_mono (qj (Kd.R_types adt.out fu.out (by decide))) (fun _ hk=>trivial))⟩,⟨zp fU⟩,⟨zp fu⟩,⟨eF HI0⟩,⟨zh HK⟩,⟨gL HB⟩⟩
      ·replace R7:=Bool.eq_false_iff.mpr R7
       subst R7
       rw[if_neg (show ¬(false=true) by decide)]at H
       have H':=ah.mk H
       clear H
       go_wp2
       go_roundg k1
       case measure=>have:=jd.out;omega
       case rel=>exact⟨(wrap64 (eB-1)),(XR),(jE),(gQ),(kE),zs,H',⟨by have:=jd.out;omega⟩,⟨zq (Kd.R_mono HO_847000.out (fun _ hk=>trivial))⟩,⟨by exact zk fU⟩,⟨by exact zk fu⟩,⟨eF HI0⟩,⟨zh HK⟩,⟨gL HB⟩⟩
     ·rw[if_neg c19]at H
      have c19b0:=decide_eq_false c19
      clear c19
      obtain⟨⟨Ch,Lc⟩,A43,H⟩:=ob H
      (try dsimp only at H)
      by_cases c44:Ch=0
      ·rw[if_pos c44]at H
       have c44b0:(Ch==0)=true:=beq_iff_eq.mpr c44
       have c44b1:(Ch != 0)=false:=bne_eq_false_iff_eq.mpr c44
       clear c44
       obtain⟨OY,P6⟩:∃y_:List Int,y_=(([(-1),65,3]:List Int)):=⟨_,rfl⟩
       replace H:((au.f k1 bN Lc 3).bind fun Bd=>(if 0≤Bd.1 then(if Bd.1<(OY.length:Int)then(some (jE,rd OY Bd.1,Bd.2))else(none))else(none)))=some (r1,r2,r3):=by first|(rw[P6];with_reducible exact H)|(have fH:=(Option.bind_some _ _).symm.trans H;rw[P6];with_reducible exact fH)|(have fH:=(Option.bind_some _ _).symm.trans H;with_reducible exact fH)|with_reducible exact H|(rw[P6];exact H)|exact H
       have adu:=ah.mk P6
       clear P6
       obtain⟨⟨Rz,aEc⟩,A45,H⟩:=ob H
       (try dsimp only at H)
       by_cases c46:0≤Rz
       ·rw[if_pos c46]at H
        have c46b0:=decide_eq_true c46
        clear c46
        by_cases c47:Rz<(OY.length:Int)
        ·rw[if_pos c47]at H
         have c47b0:=decide_eq_true c47
         clear c47
         simp only[Option.some.injEq,Prod.mk.injEq]at H
         obtain⟨rfl,rfl,rfl⟩:=H
         go_wp2_with (first|((with_reducible refine gq 22 rfl ?_);refine gl (some 27) Tryz.func22 #[.pointer (some ⟨g,0,none⟩),.int .i64 24] ?_;(with_reducible refine(au.calls k1 g bN iD 24 Ch Lc w0 _ ?aN ?aQ A43.out).mono ?_);(case aN=>exact eF HI0);(case aQ=>exact gL HB);rintro e w48 ⟨rfl,hi,hb,hk⟩;refine⟨_,rfl,?_⟩;replace HO_847000:=ah.mk (Kd.R_mono (Kd.R_keep (aM.apart (show aM w0 _ g bN iD from eF HI0) (zr HO_847000) (by decide)) hk (fun _ h=>h.2)) (fun _ h=>h.1));replace fU:=ah.mk (ax.blk hk (g':=nO) (o:=.cells #[.slice none 0 0,.int .i64 0] 25 (0,0)) (zk fU) mV.out (by simp));replace fu:=ah.mk (ax.blk hk (g':=nY) (o:=.cells #[kE,.int .i64 gQ] 25 (0,0)) (zk fu) lQ.out (by simp));replace HK:=ah.mk (ax.trans (zh HK) hk (.inl rfl));replace HB:=ah.mk (hb);replace HI0:=ah.mk (hi);(try clear hb);(try clear hk);(try clear hi))|((with_reducible refine gd 30 rfl ?_);refine Kd.R_lit (Kd.int .i64) _ 3 ?hg (N:=30) ?hd (xs:=([(-1),65,3]:List Int)) (inner:=[.int .i64 (-1),.int .i64 65,.int .i64 3]) (ok:=fun _=>True) (okp:=fun _=>True) ?hr ?hp (fun _ hk=>hk) trivial (Below.refl _ _) (Nat.le_refl _) (by simp) ?_;(case hd=>rfl);(case hg=>rfl);(case hr=>first|(go_simp;done)|(go_simp;rfl));(case hp=>exact(dm.one (show Kd.M (Kd.int .i64) _ _ _ (-1) [.int .i64 (-1)]from rfl) (dm.one (show Kd.M (Kd.int .i64) _ _ _ 65 [.int .i64 65]from rfl) (dm.one (show Kd.M (Kd.int .i64) _ _ _ 3 [.int .i64 3]from rfl) (dm.none _ _)))));intro aS9 w49 a1D hb nL fM;clear nL fM;(first|rw[←adu.out]at a1D|(simp only[Int.reduceToNat]at a1D;rw[←adu.out]at a1D));replace HO_847000:=ah.mk (Kd.R_below (zr HO_847000) hb);have VT:=ah.mk (Kd.R_lower a1D (gG (w:=w) (g:=g) (row:=none) (zh HK)));replace fU:=kb fU hb;replace fu:=kb fu hb;replace HI0:=ah.mk (aM.below (eF HI0) hb);replace HK:=ah.mk (ax.trans (zh HK) (ax.of_below hb g none) (.inl rfl));replace HB:=ah.mk (ai (gL HB) hb);clear hb a1D)|((with_reducible refine gq 22 rfl ?_);refine gl (some 32) Tryz.func22 #[.pointer (some ⟨g,0,none⟩),.int .i64 3] ?_;(with_reducible refine(au.calls k1 g bN Lc 3 Rz aEc w0 _ ?aN ?aQ A45.out).mono ?_);(case aN=>exact eF HI0);(case aQ=>exact gL HB);rintro e w51 ⟨rfl,hi,hb,hk⟩;refine⟨_,rfl,?_⟩;replace HO_847000:=ah.mk (Kd.R_mono (Kd.R_keep (aM.apart (show aM w0 _ g bN Lc from eF HI0) (zr HO_847000) (by decide)) hk (fun _ h=>h.2)) (fun _ h=>h.1));replace fU:=ah.mk (ax.blk hk (g':=nO) (o:=.cells #[.slice none 0 0,.int .i64 0] 25 (0,0)) (zk fU) mV.out (by simp));replace fu:=ah.mk (ax.blk hk (g':=nY) (o:=.cells #[kE,.int .i64 gQ] 25 (0,0)) (zk fu) lQ.out (by simp));replace VT:=ah.mk (Kd.R_mono (Kd.R_keep (aM.apart (show aM w0 _ g bN Lc from eF HI0) (zr VT) (by decide)) hk (fun _ h=>h.2)) (fun _ h=>h.1));replace HK:=ah.mk (ax.trans (zh HK) hk (.inl rfl));replace HB:=ah.mk (hb);replace HI0:=ah.mk (hi);(try clear hb);(try clear hk);(try clear hi);obtain⟨aSa,aSb,aEd⟩:=Kd.R_slice VT.out;subst aEd;have agM:0≤(Rz:Int):=of_decide_eq_true za;have agN:Rz<(OY.length:Int):=of_decide_eq_true za;obtain⟨aO1,aEe,ayP⟩:=Kd.at_int (Kd.R_reads' VT.out).2.2 Rz agM agN;cases aEe;replace agM:=eq_true agM;replace agN:=eq_true agN;have aO2:=qE.out;have aO3:=qD.out;have aO4:=lQ.out;have aO5:=Be.out;obtain⟨ayQ,ayR,ayS,ayT⟩:=c2 fu;obtain⟨aEf,aEg,aEh⟩:=Kd.R_slice HO_847000.out;subst aEh;have adj:=mV.out;have adk:=Lb.out;obtain⟨VH,VI,VJ,VK⟩:=c2 fU))
         refine bodyPost_ret (results_cell_row rfl _ _ nO 25 #[.slice aEf jE.length aEg,.int .i64 (rd OY Rz)] (0,0) _ rfl (zp fU) Tryz.underlying25 rfl (by kernel_rfl)) rfl ?_
         exact⟨_,ze,(Kd.R_mono (qj (Kd.R_types (Kd.R_types HO_847000.out fu.out (by decide)) fU.out (by decide))) (fun _ hk=>trivial)),eF HI0,gL HB,zh HK⟩
        ·rw[if_neg c47]at H
         exact absurd H (by simp)
       ·rw[if_neg c46]at H
        exact absurd H (by simp)
      ·rw[if_neg c44]at H
       have c44b0:(Ch==0)=false:=beq_eq_false_iff_ne.mpr c44
       have c44b1:(Ch != 0)=true:=bne_iff_ne.mpr c44
       by_cases c59:Ch=1
       ·rw[if_pos c59]at H
        have c59b0:(Ch==1)=true:=beq_iff_eq.mpr c59
        have c59b1:(Ch != 1)=false:=bne_eq_false_iff_eq.mpr c59
        clear c59
        obtain⟨⟨RA,RD,RF,P7⟩,A60,H⟩:=ob H
        (try dsimp only at H)
        obtain⟨⟨RG,RH,RI,agO⟩,A61,H⟩:=ob H
        (try dsimp only at H)
        obtain⟨⟨RJ,RL,RN,agP⟩,A62,H⟩:=ob H
        (try dsimp only at H)
        obtain⟨La,P8⟩:∃y_:List (bf),y_=(([(⟨RA,RD,RF⟩:bf),(⟨RG,RH,RI⟩:bf),(⟨RJ,RL,RN⟩:bf)]:List (bf))):=⟨_,rfl⟩
        replace H:(if jE.length+La.length<3518437208883 then(some ((jE++La),gQ,agP))else(none))=some (r1,r2,r3):=by first|(rw[P8];with_reducible exact H)|(have fH:=(Option.bind_some _ _).symm.trans H;rw[P8];with_reducible exact fH)|(have fH:=(Option.bind_some _ _).symm.trans H;with_reducible exact fH)|with_reducible exact H|(rw[P8];exact H)|exact H
        have adv:=ah.mk P8
        clear P8
        by_cases c63:jE.length+La.length<3518437208883
        ·rw[if_pos c63]at H
         have apd:=ah.mk c63
         clear c63
         obtain⟨ape,P9⟩:∃y_:List (bf),y_=(jE++La):=⟨_,rfl⟩
         replace H:(some (ape,gQ,agP))=some (r1,r2,r3):=by first|(rw[P9];with_reducible exact H)|(have fH:=(Option.bind_some _ _).symm.trans H;rw[P9];with_reducible exact fH)|(have fH:=(Option.bind_some _ _).symm.trans H;with_reducible exact fH)|with_reducible exact H|(rw[P9];exact H)|exact H
         have apf:=ah.mk P9
         clear P9
         simp only[Option.some.injEq,Prod.mk.injEq]at H
         obtain⟨rfl,rfl,rfl⟩:=H
         try go_wp2_with (first|((with_reducible refine gq 22 rfl ?_);refine gl (some 27) Tryz.func22 #[.pointer (some ⟨g,0,none⟩),.int .i64 24] ?_;(with_reducible refine(au.calls k1 g bN iD 24 Ch Lc w0 _ ?aN ?aQ A43.out).mono ?_);(case aN=>exact eF HI0);(case aQ=>exact gL HB);rintro e w64 ⟨rfl,hi,hb,hk⟩;refine⟨_,rfl,?_⟩;replace HO_847000:=ah.mk (Kd.R_mono (Kd.R_keep (aM.apart (show aM w0 _ g bN iD from eF HI0) (zr HO_847000) (by decide)) hk (fun _ h=>h.2)) (fun _ h=>h.1));replace fU:=ah.mk (ax.blk hk (g':=nO) (o:=.cells #[.slice none 0 0,.int .i64 0] 25 (0,0)) (zk fU) mV.out (by simp));replace fu:=ah.mk (ax.blk hk (g':=nY) (o:=.cells #[kE,.int .i64 gQ] 25 (0,0)) (zk fu) lQ.out (by simp));replace HK:=ah.mk (ax.trans (zh HK) hk (.inl rfl));replace HB:=ah.mk (hb);replace HI0:=ah.mk (hi);(try clear hb);(try clear hk);(try clear hi)))
         replace HO_847000:=ah.mk (Kd.R_drew HO_847000.out)
         replace fU:=ah.mk (dw fU.out)
         replace fu:=ah.mk (dw fu.out)
         replace HI0:=ah.mk (aM.drew HI0.out)
         replace HK:=ah.mk (Ic HK.out)
         replace HB:=ah.mk (dF HB.out)
         refine uG (n:=12) (S:=fun w'=>w'.cell? ⟨nY,0,none⟩=some (kE)∧w'.cell? ⟨nY,1,none⟩=some (.int .i64 gQ)) (ds:=[11]) #[false,false,false,false,false,false,false,false,false,false,false,false] (by kernel_rfl) rfl rfl ⟨(ak fu.out 0).trans rfl,(ak fu.out 1).trans rfl⟩ (fun hHeld=>?_);refine bK bD.tab12 bD.bits12 (fun HT_ HW_=>?_)
         generalize w64.drew=w65 at HO_847000 fU fu HI0 HK HB hHeld ⊢
         refine pu 0 (some 38) (bm 12 1) rfl rfl ?_
         refine pu 2 (some 40) (bm 12 5) rfl rfl ?_
         refine pu 4 (some 42) (bm 12 21) rfl rfl ?_
         refine pu 6 (some 44) (bm 12 85) rfl rfl ?_
         refine tk 1 (some 39) (bm 12 87) rfl rfl hHeld ?_
         refine iN (i:=3) (N:=some 41) (bm 12 95) rfl rfl (eG HT_.out (by kernel_rfl)) (by decide) (fun K hK=>?_)
         refine gs Tryz.func72 #[.pointer (some ⟨g,0,none⟩)] ?_
         with_reducible refine(eU.calls k1 g bN Lc RA RD RF P7 w0 _ ?aN ?aQ A60.out).mono ?_
         (case aN=>exact eF HI0)
         (case aQ=>exact gL HB)
         rintro e w66 ⟨rfl,hi,hb,hk⟩
         refine⟨_,rfl,?_⟩
         replace HO_847000:=ah.mk (Kd.R_mono (Kd.R_keep (aM.apart (show aM w0 _ g bN Lc from eF HI0) (zr HO_847000) (by decide)) hk (fun _ h=>h.2)) (fun _ h=>h.1))
         replace fU:=ah.mk (ax.blk hk (g':=nO) (o:=.cells #[.slice none 0 0,.int .i64 0] 25 (0,0)) (zk fU) mV.out (by simp))
         replace fu:=ah.mk (ax.blk hk (g':=nY) (o:=.cells #[kE,.int .i64 gQ] 25 (0,0)) (zk fu) lQ.out (by simp))
         replace HK:=ah.mk (ax.trans (zh HK) hk (.inl rfl))
         replace HB:=ah.mk (hb)
         replace HI0:=ah.mk (hi)
         (try clear hb)
         (try clear hk)
         (try clear hi)
         refine hK.out _ _ ⟨(ak fu.out 0).trans rfl,(ak fu.out 1).trans rfl⟩ (fun hHeld=>?_)
         clear hK K
         refine nm ?_
         refine iN (i:=5) (N:=some 43) (bm 12 127) rfl rfl (eG HT_.out (by kernel_rfl)) (by decide) (fun K hK=>?_)
         refine gs Tryz.func72 #[.pointer (some ⟨g,0,none⟩)] ?_
         with_reducible refine(eU.calls k1 g bN P7 RG RH RI agO w0 _ ?aN ?aQ A61.out).mono ?_
         (case aN=>exact eF HI0)
         (case aQ=>exact gL HB)
         rintro e w67 ⟨rfl,hi,hb,hk⟩
         refine⟨_,rfl,?_⟩
         replace HO_847000:=ah.mk (Kd.R_mono (Kd.R_keep (aM.apart (show aM w0 _ g bN P7 from eF HI0) (zr HO_847000) (by decide)) hk (fun _ h=>h.2)) (fun _ h=>h.1))
         replace fU:=ah.mk (ax.blk hk (g':=nO) (o:=.cells #[.slice none 0 0,.int .i64 0] 25 (0,0)) (zk fU) mV.out (by simp))
         replace fu:=ah.mk (ax.blk hk (g':=nY) (o:=.cells #[kE,.int .i64 gQ] 25 (0,0)) (zk fu) lQ.out (by simp))
         replace HK:=ah.mk (ax.trans (zh HK) hk (.inl rfl))
         replace HB:=ah.mk (hb)
         replace HI0:=ah.mk (hi)
         (try clear hb)
         (try clear hk)
         (try clear hi)
         refine hK.out _ _ ⟨(ak fu.out 0).trans rfl,(ak fu.out 1).trans rfl⟩ (fun hHeld=>?_)
         clear hK K
         refine nm ?_
         refine iN (i:=7) (N:=some 45) (bm 12 255) rfl rfl (eG HT_.out (by kernel_rfl)) (by decide) (fun K hK=>?_)
         refine gs Tryz.func72 #[.pointer (some ⟨g,0,none⟩)] ?_
         with_reducible refine(eU.calls k1 g bN agO RJ RL RN agP w0 _ ?aN ?aQ A62.out).mono ?_
         (case aN=>exact eF HI0)
         (case aQ=>exact gL HB)
         rintro e w68 ⟨rfl,hi,hb,hk⟩
         refine⟨_,rfl,?_⟩
         replace HO_847000:=ah.mk (Kd.R_mono (Kd.R_keep (aM.apart (show aM w0 _ g bN agO from eF HI0) (zr HO_847000) (by decide)) hk (fun _ h=>h.2)) (fun _ h=>h.1))
         replace fU:=ah.mk (ax.blk hk (g':=nO) (o:=.cells #[.slice none 0 0,.int .i64 0] 25 (0,0)) (zk fU) mV.out (by simp))
         replace fu:=ah.mk (ax.blk hk (g':=nY) (o:=.cells #[kE,.int .i64 gQ] 25 (0,0)) (zk fu) lQ.out (by simp))
         replace HK:=ah.mk (ax.trans (zh HK) hk (.inl rfl))
         replace HB:=ah.mk (hb)
         replace HI0:=ah.mk (hi)
         (try clear hb)
         (try clear hk)
         (try clear hi)
         refine hK.out _ _ ⟨(ak fu.out 0).trans rfl,(ak fu.out 1).trans rfl⟩ (fun hHeld=>?_)
         clear hK K
         refine nm ?_
         refine iN (i:=8) (N:=some 46) (bm 12 511) rfl rfl (eG HT_.out (by kernel_rfl)) (by decide) (fun K hK=>?_)
         refine Kd.R_lit_step iH _ 89 ?hg (N:=46) ?hd (xs:=([(⟨RA,RD,RF⟩:bf),(⟨RG,RH,RI⟩:bf),(⟨RJ,RL,RN⟩:bf)]:List (bf))) (inner:=[.string RA,.string RD,.bool RF,.string RG,.string RH,.bool RI,.string RJ,.string RL,.bool RN]) (ok:=fun _=>True) (okp:=fun _=>True) ?hr ?hp (fun _ hk=>hk) trivial (Below.refl _ _) (Nat.le_refl _) (by simp) ?_;(case hd=>rfl);(case hg=>rfl);(case hr=>first|(go_simp;done)|(go_simp;rfl));(case hp=>exact(dm.c3 (show Kd.M iH _ _ _ (⟨RA,RD,RF⟩:bf) [.string RA,.string RD,.bool RF]from(lK _ _ _ (⟨RA,RD,RF⟩:bf))) (dm.c3 (show Kd.M iH _ _ _ (⟨RG,RH,RI⟩:bf) [.string RG,.string RH,.bool RI]from(lK _ _ _ (⟨RG,RH,RI⟩:bf))) (dm.c3 (show Kd.M iH _ _ _ (⟨RJ,RL,RN⟩:bf) [.string RJ,.string RL,.bool RN]from(lK _ _ _ (⟨RJ,RL,RN⟩:bf))) (dm.none _ _)))))
         intro aSe w69 XT hb nL fM
         clear nL fM
         (first|rw[←adv.out]at XT|(simp only[Int.reduceToNat]at XT;rw[←adv.out]at XT))
         have Pb:=ah.mk (Kd.R_lower (Kd.R_new' XT (Kd.R_lt (zr HO_847000))) (gG (w:=w) (g:=g) (row:=none) (zh HK)))
         replace HO_847000:=ah.mk (Kd.R_elder' (zr HO_847000) (Kd.R_base XT) hb)
         replace fU:=kb fU hb
         replace fu:=kb fu hb
         replace HI0:=ah.mk (aM.below (eF HI0) hb)
         replace HK:=ah.mk (ax.trans (zh HK) (ax.of_below hb g none) (.inl rfl))
         replace HB:=ah.mk (ai (gL HB) hb)
         clear hb XT
         obtain⟨aEi,aEj,apg⟩:=Kd.R_slice Pb.out
         (first|subst apg|(injection apg with Dq NG Dr;have NH:=Dq.symm;have NI:=Dr.symm;clear Dq NG Dr;subst NH;subst NI))
         refine hK.out _ _ ⟨(ak fu.out 0).trans rfl,(ak fu.out 1).trans rfl⟩ (fun hHeld=>?_)
         clear hK K
         refine nm ?_
         refine iN (i:=9) (N:=some 47) (bm 12 1023) rfl rfl (eG HT_.out (by kernel_rfl)) (by decide) (fun K hK=>?_)
         refine Kd.R_append_rows_step iH w.heap.size (by rfl) (.tmp 39) (.tmp 46) 23 89 (.agg #[(.string ⟨#[]⟩),(.string ⟨#[]⟩),(.bool false)]) 40 rfl Tryz.underlying23 yL rfl (by decide) (by omega) kE jE La _ _ _ (fun k_=>some k_≠(.slice aEi La.length aEj:Value).ownBlock) (fun _=>False) rfl rfl ?aO ?aR (fun _ _ h=>h) (fun _ h=>h.elim) ?aF (Below.refl _ _) ?aS ?aL ?_
         (case aR=>exact zc (Kd.R_reads' Pb.out).2.2)
         (case aF=>exact(fun k_ hk=>Kd.fresh' (Kd.R_lt (zr Pb)) k_ hk))
         (case aO=>exact(zq (Kd.R_mono HO_847000.out (fun _ hk=>hk.2))))
         (case aS=>exact(gG (w:=w) (g:=g) (row:=none) (zh HK)))
         (case aL=>have:=apd.out;omega)
         intro aSf w71 ho hb hg hat
         rw[←apf.out]at ho
         replace fU:=ah.mk (jL (zk fU) hg (Kd.R_ne HO_847000.out fU.out (by decide)))
         replace fu:=ah.mk (jL (zk fu) hg (Kd.R_ne HO_847000.out fu.out (by decide)))
         replace HI0:=ah.mk (aM.grown (eF HI0) hg (aM.own_ne HI0.out HO_847000.out (by decide)))
         replace Pb:=ah.mk (Kd.R_after (ok:=(fun _=>True)) (zr Pb) hg hat)
         replace HB:=ah.mk (JC (gL HB) HL.out hb)
         replace HK:=ah.mk (ax.trans (zh HK) (ax.of_grown hg g) (Kd.R_base2 HO_847000.out))
         have adw:=ah.mk (ho)
         clear HO_847000
         clear ho hb hg hat
         obtain⟨aEk,aEl,aph⟩:=Kd.R_slice adw.out
         (first|subst aph|(injection aph with Dq NG Dr;have NH:=Dq.symm;have NI:=Dr.symm;clear Dq NG Dr;subst NH;subst NI))
         refine hK.out _ _ ⟨(ak fu.out 0).trans rfl,(ak fu.out 1).trans rfl⟩ (fun hHeld=>?_)
         clear hK K
         refine nm ?_
         refine pu 10 (some 48) (bm 12 2047) rfl rfl ?_
         refine abB (i:=11) (N:=none) #[true,true,true,true,true,true,true,true,true,true,true,true] rfl rfl (eG HT_.out (by kernel_rfl)) (by decide) (fun K hK=>?_)
         have aDP:w71.cell? ⟨nY,0,none⟩=some (kE):=(ak fu.out 0).trans rfl
         have aoA:=aj fu.out 0
         have a9I:=qD.out
         have a9J:=qE.out
         refine oF (w1:=?_) (by rfl) rfl ?_ ?_
         rotate_left
         ·go_simp
          rfl
         refine hK.out _ _ ?_
         clear hK K
         refine lq (jC HT_.out (by kernel_rfl)) ?_
         have aO6:=qE.out
         have aO7:=qD.out
         have aO8:=lQ.out
         have aO9:=Be.out
         obtain⟨ayV,ayW,ayX,ayY⟩:=c2 fu
         have aOa:=mV.out
         have aOb:=Lb.out
         obtain⟨ayZ,az0,az1,az2⟩:=c2 fU
         try go_wp2
         refine bodyPost_ret (results_cell_row rfl _ _ nO 25 #[.slice aEk ape.length aEl,.int .i64 gQ] (0,0) _ rfl (zp fU) Tryz.underlying25 rfl (by kernel_rfl)) rfl ?_
         exact⟨_,ze,(Kd.R_mono (qj (Kd.R_types (Kd.R_types adw.out fu.out (by decide)) fU.out (by decide))) (fun _ hk=>trivial)),eF HI0,gL HB,zh HK⟩
        ·rw[if_neg c63]at H
         exact absurd H (by simp)
       ·rw[if_neg c59]at H
        have c59b0:(Ch==1)=false:=beq_eq_false_iff_ne.mpr c59
        have c59b1:(Ch != 1)=true:=bne_iff_ne.mpr c59
        simp only[Option.some.injEq,Prod.mk.injEq]at H
        obtain⟨rfl,rfl,rfl⟩:=H
        go_wp2_with (first|((with_reducible refine gq 22 rfl ?_);refine gl (some 27) Tryz.func22 #[.pointer (some ⟨g,0,none⟩),.int .i64 24] ?_;(with_reducible refine(au.calls k1 g bN iD 24 Ch Lc w0 _ ?aN ?aQ A43.out).mono ?_);(case aN=>exact eF HI0);(case aQ=>exact gL HB);rintro e w80 ⟨rfl,hi,hb,hk⟩;refine⟨_,rfl,?_⟩;replace HO_847000:=ah.mk (Kd.R_mono (Kd.R_keep (aM.apart (show aM w0 _ g bN iD from eF HI0) (zr HO_847000) (by decide)) hk (fun _ h=>h.2)) (fun _ h=>h.1));replace fU:=ah.mk (ax.blk hk (g':=nO) (o:=.cells #[.slice none 0 0,.int .i64 0] 25 (0,0)) (zk fU) mV.out (by simp));replace fu:=ah.mk (ax.blk hk (g':=nY) (o:=.cells #[kE,.int .i64 gQ] 25 (0,0)) (zk fu) lQ.out (by simp));replace HK:=ah.mk (ax.trans (zh HK) hk (.inl rfl));replace HB:=ah.mk (hb);replace HI0:=ah.mk (hi);(try clear hb);(try clear hk);(try clear hi);have aoC:=qE.out;have aoD:=qD.out;have aoE:=lQ.out;have aoF:=Be.out;obtain⟨a9K,a9L,a9M,a9N⟩:=c2 fu;obtain⟨aEm,aEn,aEo⟩:=Kd.R_slice HO_847000.out;subst aEo;have aOc:=mV.out;have aOd:=Lb.out;obtain⟨az3,az4,az5,az6⟩:=c2 fU))
        refine bodyPost_ret (results_cell_row rfl _ _ nO 25 #[.slice aEm jE.length aEn,.int .i64 gQ] (0,0) _ rfl (zp fU) Tryz.underlying25 rfl (by kernel_rfl)) rfl ?_
        exact⟨_,ze,(Kd.R_mono (qj (Kd.R_types HO_847000.out fU.out (by decide))) (fun _ hk=>trivial)),eF HI0,gL HB,zh HK⟩
  ·rw[if_neg c4]at H
   exact absurd H (by simp)
 ·skip
  exact absurd H (by simp)
mutual
def aD.l0:Nat→ByteArray→List Int→Int→Option (ByteArray)
 |0,_,_,_=>none
 |k+1,x0,x3,x4=>if x4<(x0.size:Int)then(if 0≤x4 then((dz.f k (bt x0 x4)).bind fun Gn=>(if Gn<24 then((bG.f k Gn 5).bind fun Pf=>(if x3.length+Pf.length<17592186044416 then(aD.l0 k x0 (x3++Pf) (wrap64 (x4+1)))else(none)))else((bG.f k (wrap64 ((wrap64 (96+Gn))-24)) 7).bind fun Pg=>(if x3.length+Pg.length<17592186044416 then(aD.l0 k x0 (x3++Pg) (wrap64 (x4+1)))else(none)))))else(none))else(aD.l1 k x3)
def aD.l1:Nat→List Int→Option (ByteArray)
 |0,_=>none
 |k+1,x3=>if((x3.length:Int)%8)>0 then(if x3.length<17592186044416 then(aD.l1 k (x3++[1]))else(none))else(aD.l2 k x3 (⟨#[]⟩:ByteArray) 0)
def aD.l2:Nat→List Int→ByteArray→Int→Option (ByteArray)
 |0,_,_,_=>none
 |k+1,x3,x6,x7=>if x7<(x3.length:Int)then(if 0≤x7 then(if x7≤(wrap64 (x7+8))then(if(wrap64 (x7+8))≤(x3.length:Int)then((bT.f k ((x3.take ((wrap64 (x7+8)):Int).toNat).drop (x7:Int).toNat)).bind fun RO=>((bR.f RO).bind fun I5=>(if x6.size+I5.size≤9223372036854775807 then(aD.l2 k x3 (x6++I5) (wrap64 (x7+8)))else(none))))else(none))else(none))else(none))else(some x6)
end
def aD.f(k:Nat)(a0:ByteArray):Option (ByteArray):=aD.l0 k a0 (([]:List Int)) 0
theorem aD.mono_l:∀k,(∀y0 y1 y2,gM (aD.l0 k y0 y1 y2) (aD.l0 (k+1) y0 y1 y2))∧(∀y0,gM (aD.l1 k y0) (aD.l1 (k+1) y0))∧(∀y0 y1 y2,gM (aD.l2 k y0 y1 y2) (aD.l2 (k+1) y0 y1 y2))
 |0=>⟨fun _ _ _ r h=>by simp[aD.l0]at h,fun _ r h=>by simp[aD.l1]at h,fun _ _ _ r h=>by simp[aD.l2]at h⟩
 |k+1=>by
  obtain⟨mW,ih1,ih2⟩:=aD.mono_l k
  refine⟨?_,?_,?_⟩
  ·intro y0 y1 y2
   unfold aD.l0
   have m0:=@bG.mono
   have m1:=@bT.mono
   have m2:=@dz.mono
   exact zm
  ·intro y0
   unfold aD.l1
   have m0:=@bG.mono
   have m1:=@bT.mono
   have m2:=@dz.mono
   exact zm
  ·intro y0 y1 y2
   unfold aD.l2
   have m0:=@bG.mono
   have m1:=@bT.mono
   have m2:=@dz.mono
   exact zm
theorem aD.mono:∀a0 k,gM (aD.f k a0) (aD.f (k+1) a0):=by
 intro a0 k
 obtain⟨mW,ih1,ih2⟩:=aD.mono_l k
 unfold aD.f
 have m0:=@bG.mono
 have m1:=@bT.mono
 have m2:=@dz.mono
 exact zm
theorem aD.calls(k:Nat)(a0:ByteArray)(r:ByteArray)(w:World)(h:aD.f k a0=some r):
 Calls Tryz.prog 109 #[.string a0] w fun e w'=>e= .returned (.string r)∧Below w.heap.size w w':=by
 have HB:=ah.mk (Below.refl w.heap.size w)
 have H:(aD.l0 k a0 (([]:List Int)) 0)=some r:=h
 clear h
 obtain⟨apj,Ph⟩:∃y_:List Int,y_=(([]:List Int)):=⟨_,rfl⟩
 replace H:(aD.l0 k a0 apj 0)=some r:=by first|(rw[Ph];with_reducible exact H)|(have fH:=(Option.bind_some _ _).symm.trans H;rw[Ph];with_reducible exact fH)|(have fH:=(Option.bind_some _ _).symm.trans H;with_reducible exact fH)|with_reducible exact H|(rw[Ph];exact H)|exact H
 have adx:=ah.mk Ph
 clear Ph
 have H':=ah.mk H
 clear H
 go_enter Tryz.func109,Tryz.ntmps109
 go_wp2_with (first|((with_reducible refine gd 8 rfl ?_);refine Kd.R_lit (Kd.int .i64) _ 3 ?hg (N:=8) ?hd (xs:=([]:List Int)) (inner:=[]) (ok:=fun _=>True) (okp:=fun _=>True) ?hr ?hp (fun _ hk=>hk) trivial (Below.refl _ _) (Nat.le_refl _) (by simp) ?_;(case hd=>rfl);(case hg=>rfl);(case hr=>first|(go_simp;done)|(go_simp;rfl));(case hp=>exact(dm.none _ _));intro aSg w2 ho3 hb nL fM;clear nL fM;(first|rw[←adx.out]at ho3|(simp only[Int.reduceToNat]at ho3;rw[←adx.out]at ho3));have apk:=ah.mk (Kd.R_lower ho3 (aJ (zb HB)));replace HB:=ah.mk (ai (zb HB) hb);clear hb ho3))
 go_loopg [3,4] k (fun kq v3 v4 w'=>∃(dh:List Int)(eB:Int),v4= .int .i64 eB∧ah (aD.l0 kq a0 dh eB=some r)∧ah (kq≤k)∧ah (Kd.R (Kd.int .i64) 3 w' w.heap.size (fun _=>True) v3 dh)∧ah (Below w.heap.size w w'))
 case atStart=>exact⟨(apj),(0),zs,H',⟨Nat.le_refl _⟩,⟨by exact zr apk⟩,⟨zb HB⟩⟩
 case round=>
  clear H'
  try clear c1
  try clear p2
  obtain⟨dh,eB,rfl,HA,jd,HO_3,HB⟩:=hrel
  cases gk with
  |zero=>exact absurd HA.out (by simp[aD.l0])
  |succ k1=>
   have H:=HA.out
   clear HA
   simp only[aD.l0]at H
   replace H:=sp H
   rcases H with⟨c4,H⟩|⟨c4,H⟩
   ·skip
    have c4b0:=decide_eq_true c4
    clear c4
    by_cases c5:0≤eB
    ·rw[if_pos c5]at H
     have c5b0:=decide_eq_true c5
     clear c5
     obtain⟨Gn,A7,H⟩:=ob H
     (try dsimp only at H)
     by_cases c8:Gn<24
     ·rw[if_pos c8]at H
      have c8b0:=decide_eq_true c8
      clear c8
      obtain⟨Pf,A9,H⟩:=ob H
      (try dsimp only at H)
      by_cases c10:dh.length+Pf.length<17592186044416
      ·rw[if_pos c10]at H
       have apl:=ah.mk c10
       clear c10
       obtain⟨apm,Pj⟩:∃y_:List Int,y_=(dh++Pf):=⟨_,rfl⟩
       replace H:(aD.l0 k1 a0 apm (wrap64 (eB+1)))=some r:=by first|(rw[Pj];with_reducible exact H)|(have fH:=(Option.bind_some _ _).symm.trans H;rw[Pj];with_reducible exact fH)|(have fH:=(Option.bind_some _ _).symm.trans H;with_reducible exact fH)|with_reducible exact H|(rw[Pj];exact H)|exact H
       have apn:=ah.mk Pj
       clear Pj
       have H':=ah.mk H
       clear H
       have p6:0≤(eB:Int):=of_decide_eq_true za
       have q6:eB<(a0.size:Int):=of_decide_eq_true za
       have hx6:=fF a0 eB
       replace p6:=eq_true p6
       replace q6:=eq_true q6
       go_wp2_with (first|((with_reducible refine gq 74 rfl ?_);refine gl (some 18) Tryz.func74 #[.int .u8 (bt a0 eB)] ?_;(with_reducible refine(dz.calls k1 (bt a0 eB) Gn _ A7.out).mono ?_);rintro e w' ⟨rfl,⟨nd,rfl⟩⟩;refine⟨_,rfl,?_⟩)|((with_reducible refine gq 114 rfl ?_);refine gl (some 23) Tryz.func114 #[.int .i64 Gn,.int .i64 5] ?_;(with_reducible refine(bG.calls k1 Gn 5 Pf _ A9.out).mono ?_);rintro e w11 ⟨aSh,rfl,ho0,hb⟩;refine⟨_,rfl,?_⟩;have Pk:=ah.mk (Kd.R_lower (Kd.R_new' ho0 (Kd.R_lt (zr HO_3))) (aJ (zb HB)));replace HO_3:=ah.mk (Kd.R_elder' (zr HO_3) (Kd.R_base ho0) hb);replace HB:=ah.mk (ai (zb HB) hb);(try clear hb);(try clear ho0);obtain⟨a9S,a9T,agI⟩:=Kd.R_slice Pk.out;subst agI)|((with_reducible refine kY (b:=.append) (xs:=#[.tmp 21,.tmp 23]) rfl ?_);at_builtin;refine Kd.R_append_rows (Kd.int .i64) (w0:=w) w.heap.size rfl (.tmp 21) (.tmp 23) 91 3 (.int .i64 0) 8 rfl Tryz.underlying91 info3 rfl (by decide) (by omega) u3 dh Pf _ _ _ (fun k_=>some k_≠(.slice a9S Pf.length a9T:Value).ownBlock) (fun _=>False) rfl rfl ?aO ?aR (fun _ _ h=>h) (fun _ h=>h.elim) ?aF ?aB ?aS ?aL ?_;(case aR=>exact zc (Kd.R_reads' Pk.out).2.2);(case aB=>exact(zb HB));(case aF=>exact(fun k_ hk=>Kd.fresh' (Kd.R_lt (zr Pk)) k_ hk));(case aO=>exact(zq (Kd.R_mono HO_3.out (fun _ hk=>hk.2))));(case aS=>exact(aJ (zb HB)));(case aL=>have:=apl.out;omega);intro aSi Xu ho hb hg hat;rw[←apn.out]at ho;replace Pk:=ah.mk (Kd.R_after (ok:=(fun _=>True)) (zr Pk) hg hat);replace HB:=ah.mk (hb);have apo:=ah.mk (ho);clear HO_3;clear ho hb hg hat))
       go_roundg k1
       case measure=>have:=jd.out;omega
       case rel=>exact⟨(apm),(wrap64 (eB+1)),zs,H',⟨by have:=jd.out;omega⟩,⟨zq (Kd.R_mono apo.out (fun _ hk=>trivial))⟩,⟨zb HB⟩⟩
      ·rw[if_neg c10]at H
       exact absurd H (by simp)
     ·rw[if_neg c8]at H
      have c8b0:=decide_eq_false c8
      clear c8
      obtain⟨Pg,A14,H⟩:=ob H
      (try dsimp only at H)
      by_cases c15:dh.length+Pg.length<17592186044416
      ·rw[if_pos c15]at H
       have apq:=ah.mk c15
       clear c15
       obtain⟨apr,Pm⟩:∃y_:List Int,y_=(dh++Pg):=⟨_,rfl⟩
       replace H:(aD.l0 k1 a0 apr (wrap64 (eB+1)))=some r:=by first|(rw[Pm];with_reducible exact H)|(have fH:=(Option.bind_some _ _).symm.trans H;rw[Pm];with_reducible exact fH)|(have fH:=(Option.bind_some _ _).symm.trans H;with_reducible exact fH)|with_reducible exact H|(rw[Pm];exact H)|exact H
       have aps:=ah.mk Pm
       clear Pm
       have H':=ah.mk H
       clear H
       have p6:0≤(eB:Int):=of_decide_eq_true za
       have q6:eB<(a0.size:Int):=of_decide_eq_true za
       have hx6:=fF a0 eB
       replace p6:=eq_true p6
       replace q6:=eq_true q6
       go_wp2_with (first|((with_reducible refine gq 74 rfl ?_);refine gl (some 18) Tryz.func74 #[.int .u8 (bt a0 eB)] ?_;(with_reducible refine(dz.calls k1 (bt a0 eB) Gn _ A7.out).mono ?_);rintro e w' ⟨rfl,⟨nd,rfl⟩⟩;refine⟨_,rfl,?_⟩)|((with_reducible refine gq 114 rfl ?_);refine gl (some 29) Tryz.func114 #[.int .i64 (wrap64 ((wrap64 (96+Gn))-24)),.int .i64 7] ?_;(with_reducible refine(bG.calls k1 (wrap64 ((wrap64 (96+Gn))-24)) 7 Pg _ A14.out).mono ?_);rintro e w16 ⟨aSj,rfl,ho0,hb⟩;refine⟨_,rfl,?_⟩;have Pn:=ah.mk (Kd.R_lower (Kd.R_new' ho0 (Kd.R_lt (zr HO_3))) (aJ (zb HB)));replace HO_3:=ah.mk (Kd.R_elder' (zr HO_3) (Kd.R_base ho0) hb);replace HB:=ah.mk (ai (zb HB) hb);(try clear hb);(try clear ho0);obtain⟨E5,BU,O9⟩:=Kd.R_slice Pn.out;subst O9)|((with_reducible refine kY (b:=.append) (xs:=#[.tmp 25,.tmp 29]) rfl ?_);at_builtin;refine Kd.R_append_rows (Kd.int .i64) (w0:=w) w.heap.size rfl (.tmp 25) (.tmp 29) 91 3 (.int .i64 0) 8 rfl Tryz.underlying91 info3 rfl (by decide) (by omega) u3 dh Pg _ _ _ (fun k_=>some k_≠(.slice E5 Pg.length BU:Value).ownBlock) (fun _=>False) rfl rfl ?aO ?aR (fun _ _ h=>h) (fun _ h=>h.elim) ?aF ?aB ?aS ?aL ?_;(case aR=>exact zc (Kd.R_reads' Pn.out).2.2);(case aB=>exact(zb HB));(case aF=>exact(fun k_ hk=>Kd.fresh' (Kd.R_lt (zr Pn)) k_ hk));(case aO=>exact(zq (Kd.R_mono HO_3.out (fun _ hk=>hk.2))));(case aS=>exact(aJ (zb HB)));(case aL=>have:=apq.out;omega);intro aSk w17 ho hb hg hat;rw[←aps.out]at ho;replace Pn:=ah.mk (Kd.R_after (ok:=(fun _=>True)) (zr Pn) hg hat);replace HB:=ah.mk (hb);have apt:=ah.mk (ho);clear HO_3;clear ho hb hg hat))
       go_roundg k1
       case measure=>have:=jd.out;omega
       case rel=>exact⟨(apr),(wrap64 (eB+1)),zs,H',⟨by have:=jd.out;omega⟩,⟨zq (Kd.R_mono apt.out (fun _ hk=>trivial))⟩,⟨zb HB⟩⟩
      ·rw[if_neg c15]at H
       exact absurd H (by simp)
    ·rw[if_neg c5]at H
     exact absurd H (by simp)
   ·skip
    have c4b0:=decide_eq_false c4
    clear c4
    have H':=ah.mk H
    clear H
    go_wp2
    go_loopg [3] k1 (fun kq v3 w'=>∃(um:List Int),ah (aD.l1 kq um=some r)∧ah (kq≤k1)∧ah (Kd.R (Kd.int .i64) 3 w' w.heap.size (fun _=>True) v3 um)∧ah (Below w.heap.size w w'))
    case atStart=>exact⟨(dh),H',⟨Nat.le_refl _⟩,⟨by exact zr HO_3⟩,⟨zb HB⟩⟩
    case round=>
     clear H'
     try clear c1
     try clear p2
     try clear c4
     try clear c4b0
     try clear c5
     try clear c5b0
     try clear p6
     try clear q6
     try clear hx6
     try clear c7
     try clear c8
     try clear c8b0
     try clear c10
     try clear c11
     try clear c15
     try clear p2
     try clear p6
     try clear q6
     obtain⟨um,HA,MB,HO_3,HB⟩:=hrel
     cases gk with
     |zero=>exact absurd HA.out (by simp[aD.l1])
     |succ k2=>
      have H:=HA.out
      clear HA
      simp only[aD.l1]at H
      replace H:=sp H
      rcases H with⟨c19,H⟩|⟨c19,H⟩
      ·skip
       have c19b0:=decide_eq_true c19
       clear c19
       by_cases c20:um.length<17592186044416
       ·rw[if_pos c20]at H
        have apu:=ah.mk c20
        clear c20
        obtain⟨apv,Po⟩:∃y_:List Int,y_=(um++[1]):=⟨_,rfl⟩
        replace H:(aD.l1 k2 apv)=some r:=by first|(rw[Po];with_reducible exact H)|(have fH:=(Option.bind_some _ _).symm.trans H;rw[Po];with_reducible exact fH)|(have fH:=(Option.bind_some _ _).symm.trans H;with_reducible exact fH)|with_reducible exact H|(rw[Po];exact H)|exact H
        have apw:=ah.mk Po
        clear Po
        have H':=ah.mk H
        clear H
        obtain⟨aEp,aEq,aEr⟩:=Kd.R_slice HO_3.out
        subst aEr
        go_wp2_with (first|((with_reducible refine kY (b:=.append) (xs:=#[.tmp 35,.tmp 36]) rfl ?_);at_builtin;refine Kd.R_append (Kd.int .i64) (w0:=w) w.heap.size rfl (.tmp 35) (.tmp 36) 91 3 (.int .i64 0) 8 rfl Tryz.underlying91 info3 rfl (by decide) (by omega) (.slice aEp um.length aEq) um 1 [.int .i64 1] (fun _=>True) (fun _=>False) rfl rfl ?aP (fun _ hk=>hk.elim) ?aF ?aO ?aB ?aS ?aL ?_;(case aP=>exact rfl);(case aB=>exact(zb HB));(case aF=>exact(fun _ _=>trivial));(case aO=>exact(zr HO_3));(case aS=>exact(aJ (zb HB)));(case aL=>have:=apu.out;omega);intro aSl w22 ho hb hg hat;rw[←apw.out]at ho;replace HB:=ah.mk (hb);have apx:=ah.mk (ho);clear HO_3;clear ho hb hg hat))
        go_roundg k2
        case measure=>have:=jd.out;have:=MB.out;omega
        case rel=>exact⟨(apv),H',⟨by have:=jd.out;have:=MB.out;omega⟩,⟨by exact zr apx⟩,⟨zb HB⟩⟩
       ·rw[if_neg c20]at H
        exact absurd H (by simp)
      ·skip
       have c19b0:=decide_eq_false c19
       clear c19
       have H':=ah.mk H
       clear H
       obtain⟨wI,uT,aga⟩:=Kd.R_slice HO_3.out
       subst aga
       go_wp2
       go_loopg [6,7] k2 (fun kq v6 v7 w'=>∃(Pp:ByteArray)(nZ:Int),v6= .string Pp∧v7= .int .i64 nZ∧ah (aD.l2 kq um Pp nZ=some r)∧ah (kq≤k2)∧ah (Kd.R (Kd.int .i64) 3 w' w.heap.size (fun _=>True) (.slice wI um.length uT) um)∧ah (Below w.heap.size w w'))
       case atStart=>exact⟨((⟨#[]⟩:ByteArray)),(0),zs,zs,H',⟨Nat.le_refl _⟩,⟨by exact zr HO_3⟩,⟨zb HB⟩⟩
       case round=>
        clear H'
        try clear c1
        try clear c2
        try clear p2
        try clear c4
        try clear c4b0
        try clear c5
        try clear c5b0
        try clear p6
        try clear q6
        try clear hx6
        try clear c7
        try clear c8
        try clear c8b0
        try clear c10
        try clear c11
        try clear c15
        try clear c19
        try clear c19b0
        try clear c20
        try clear p2
        try clear p6
        try clear q6
        obtain⟨Pp,nZ,rfl,rfl,HA,HK3,HO_3,HB⟩:=hrel
        cases gk with
        |zero=>exact absurd HA.out (by simp[aD.l2])
        |succ k3=>
         have H:=HA.out
         clear HA
         simp only[aD.l2]at H
         replace H:=sp H
         rcases H with⟨c24,H⟩|⟨c24,H⟩
         ·skip
          have c24b0:=decide_eq_true c24
          clear c24
          by_cases Hl:0≤nZ
          ·rw[if_pos Hl]at H
           have c25b0:=eq_true Hl
           have c25b1:=decide_eq_true Hl
           clear Hl
           by_cases KY:nZ≤(wrap64 (nZ+8))
           ·rw[if_pos KY]at H
            have c26b0:=eq_true KY
            have c26b1:=decide_eq_true KY
            by_cases c27:(wrap64 (nZ+8))≤(um.length:Int)
            ·rw[if_pos c27]at H
             have c27b0:=eq_true c27
             have c27b1:=decide_eq_true c27
             obtain⟨Pq,Ps⟩:∃y_:List Int,y_=((um.take ((wrap64 (nZ+8)):Int).toNat).drop (nZ:Int).toNat):=⟨_,rfl⟩
             replace H:((bT.f k3 Pq).bind fun RO=>((bR.f RO).bind fun I5=>(if Pp.size+I5.size≤9223372036854775807 then(aD.l2 k3 um (Pp++I5) (wrap64 (nZ+8)))else(none))))=some r:=by first|(rw[Ps];with_reducible exact H)|(have fH:=(Option.bind_some _ _).symm.trans H;rw[Ps];with_reducible exact fH)|(have fH:=(Option.bind_some _ _).symm.trans H;with_reducible exact fH)|with_reducible exact H|(rw[Ps];exact H)|exact H
             have ady:=ah.mk Ps
             clear Ps
             obtain⟨RO,A28,H⟩:=ob H
             (try dsimp only at H)
             obtain⟨I5,A29,H⟩:=ob H
             (try dsimp only at H)
             by_cases R7:Pp.size+I5.size≤9223372036854775807
             ·rw[if_pos R7]at H
              have c30b0:=eq_true R7
              have c30b1:=decide_eq_true R7
              try have c30b2:(9223372036854775807<Pp.size+I5.size)=False:=eq_false (Nat.not_lt.2 R7)
              have H':=ah.mk H
              clear H
              have q31:((wrap64 (nZ+8)):Int)≤((um.length:Int):Int):=of_decide_eq_true za
              obtain⟨aSn,adz,_,adA,_⟩:=info_parts info3
              have hroom31:um.length≤uT:=(Kd.R_reads' HO_3.out).2.1
              have apy:Kd.C (Kd.int .i64) _ wI um.length um:=(Kd.R_reads' HO_3.out).2.2
              have aEt:(nZ:Int)≤((wrap64 (nZ+8)):Int):=of_decide_eq_true za
              have aEu:(0:Int)≤(nZ:Int):=of_decide_eq_true za
              have agQ:=a4f (P:=Tryz.prog) 91 3 .i64 .i64 Tryz.underlying91 adz 1 adA wI um.length uT nZ (wrap64 (nZ+8)) aEu aEt q31 hroom31
              have a1E:=Kd.C_mid (lo:=(nZ:Int).toNat) (hi:=((wrap64 (nZ+8)):Int).toNat) (c:=uT) apy (by omega) (by omega) hroom31
              obtain⟨A31,a9V⟩:∃A1,A1=(if uT=(nZ:Int).toNat then wI else(wI:Option Addr).map (·.add ((nZ:Int).toNat*1))):=⟨_,rfl⟩
              obtain⟨c31,hc31⟩:∃c1,c1=uT-(nZ:Int).toNat:=⟨_,rfl⟩
              have hy31:Pq.length=((wrap64 (nZ+8)):Int).toNat-(nZ:Int).toNat:=(by rw[ady.out,List.length_drop,List.length_take]<;>omega)
              rw[show((um).take ((wrap64 (nZ+8)):Int).toNat).drop (nZ:Int).toNat=Pq from ady.out.symm]at a1E
              replace a1E:Kd.C (Kd.int .i64) _ A31 Pq.length Pq:=(by rw[a9V];exact a1E)
              rw[←hy31,←a9V,←hc31]at agQ
              have a1F:=ah.mk a1E
              have apz:=ah.mk (show Pq.length≤c31 from by rw[hy31,hc31];exact Nat.sub_le_sub_right (Nat.le_trans (by omega) hroom31) _)
              clear a1E apy hroom31 adz adA hc31
              have aSo:=ah.mk hy31
              have aSp:=ah.mk a9V
              clear hy31 a9V
              have aSq:=ah.mk (show((wrap64 (nZ+8)):Int).toNat≤um.length from by omega)
              have aSr:=ah.mk (show(nZ:Int).toNat≤((wrap64 (nZ+8)):Int).toNat from by omega)
              replace q31:=eq_true q31
              go_wp2_with (first|((with_reducible refine gq 115 rfl ?_);refine gl (some 50) Tryz.func115 #[.slice A31 Pq.length c31] ?_;(with_reducible refine(bT.calls k3 _ _ Pq RO _ ?aN ?aQ A28.out).mono ?_);(case aN=>exact zc a1F.out);(case aQ=>exact apz.out);rintro e w' ⟨rfl,⟨nd,rfl⟩⟩;refine⟨_,rfl,?_⟩)|((with_reducible refine gq 59 rfl ?_);refine gl (some 51) Tryz.func59 #[.int .i64 RO] ?_;(with_reducible refine(bR.calls RO I5 _ A29.out).mono ?_);rintro e w32 ⟨rfl,hb⟩;refine⟨_,rfl,?_⟩;replace HO_3:=ah.mk (Kd.R_below (zr HO_3) hb);replace a1F:=ah.mk (Kd.C_below (zc a1F.out) hb);replace HB:=ah.mk (ai (zb HB) hb);(try clear hb)))
              go_roundg k3
              case measure=>have:=jd.out;have:=MB.out;have:=HK3.out;omega
              case rel=>exact⟨(Pp++I5),(wrap64 (nZ+8)),zs,zs,H',⟨by have:=jd.out;have:=MB.out;have:=HK3.out;omega⟩,⟨by exact zr HO_3⟩,⟨zb HB⟩⟩
             ·rw[if_neg R7]at H
              exact absurd H (by simp)
            ·rw[if_neg c27]at H
             exact absurd H (by simp)
           ·rw[if_neg KY]at H
            exact absurd H (by simp)
          ·rw[if_neg Hl]at H
           exact absurd H (by simp)
         ·skip
          have c24b0:=decide_eq_false c24
          clear c24
          obtain rfl:=Option.some.inj H
          go_wp2
          go_ret
          exact⟨ze,zb HB⟩
def fe.f(k:Nat)(a0:ByteArray):Option (ByteArray):=(aD.f k a0).bind fun yg=>(if(yg.size:Int)<(a0.size:Int)then((aX.f k (yg.size:Int) 7 1).bind fun Ld=>(if Ld.size+yg.size≤9223372036854775807 then(some (Ld++yg))else(none)))else((aX.f k (a0.size:Int) 7 0).bind fun Pt=>(if Pt.size+a0.size≤9223372036854775807 then(some (Pt++a0))else(none))))
theorem fe.mono:∀a0 k,gM (fe.f k a0) (fe.f (k+1) a0):=by
 intro a0 k
 unfold fe.f
 have m0:=@aX.mono
 have m1:=@aD.mono
 exact zm
theorem fe.calls(k:Nat)(a0:ByteArray)(r:ByteArray)(w:World)(h:fe.f k a0=some r):
 Calls Tryz.prog 104 #[.string a0] w fun e w'=>e= .returned (.string r)∧Below w.heap.size w w':=by
 have HB:=ah.mk (Below.refl w.heap.size w)
 have H:((aD.f k a0).bind fun yg=>(if(yg.size:Int)<(a0.size:Int)then((aX.f k (yg.size:Int) 7 1).bind fun Ld=>(if Ld.size+yg.size≤9223372036854775807 then(some (Ld++yg))else(none)))else((aX.f k (a0.size:Int) 7 0).bind fun Pt=>(if Pt.size+a0.size≤9223372036854775807 then(some (Pt++a0))else(none)))))=some r:=h
 clear h
 obtain⟨yg,A2,H⟩:=ob H
 (try dsimp only at H)
 replace H:=sp H
 rcases H with⟨c3,H⟩|⟨c3,H⟩
 ·skip
  have c3b0:=decide_eq_true c3
  have c3b1:=decide_eq_true (Int.ofNat_lt.mp c3)
  clear c3
  obtain⟨Ld,A4,H⟩:=ob H
  (try dsimp only at H)
  by_cases c5:Ld.size+yg.size≤9223372036854775807
  ·rw[if_pos c5]at H
   have c5b0:=eq_true c5
   have c5b1:=decide_eq_true c5
   try have c5b2:(9223372036854775807<Ld.size+yg.size)=False:=eq_false (Nat.not_lt.2 c5)
   obtain rfl:=Option.some.inj H
   go_enter Tryz.func104,Tryz.ntmps104
   go_wp2_with (first|((with_reducible refine gq 109 rfl ?_);refine gl (some 5) Tryz.func109 #[.string a0] ?_;(with_reducible refine(aD.calls k a0 yg _ A2.out).mono ?_);rintro e w6 ⟨rfl,hb⟩;refine⟨_,rfl,?_⟩;replace HB:=ah.mk (ai (zb HB) hb);(try clear hb))|((with_reducible refine gq 105 rfl ?_);refine gl (some 13) Tryz.func105 #[.int .i64 (yg.size:Int),.int .i64 7,.int .i64 1] ?_;(with_reducible refine(aX.calls k (yg.size:Int) 7 1 Ld _ A4.out).mono ?_);rintro e w7 ⟨rfl,hb⟩;refine⟨_,rfl,?_⟩;replace HB:=ah.mk (ai (zb HB) hb);(try clear hb)))
   go_ret
   exact⟨ze,zb HB⟩
  ·rw[if_neg c5]at H
   exact absurd H (by simp)
 ·skip
  have c3b0:=decide_eq_false c3
  have c3b1:=decide_eq_false (fun h=>c3 (Int.ofNat_lt.mpr h))
  clear c3
  obtain⟨Pt,A8,H⟩:=ob H
  (try dsimp only at H)
  replace H:=sp H
  rcases H with⟨c9,H⟩|⟨c9,H⟩
  ·skip
   have c9b0:=eq_true c9
   have c9b1:=decide_eq_true c9
   try have c9b2:(9223372036854775807<Pt.size+a0.size)=False:=eq_false (Nat.not_lt.2 c9)
   obtain rfl:=Option.some.inj H
   go_enter Tryz.func104,Tryz.ntmps104
   go_wp2_with (first|((with_reducible refine gq 109 rfl ?_);refine gl (some 5) Tryz.func109 #[.string a0] ?_;(with_reducible refine(aD.calls k a0 yg _ A2.out).mono ?_);rintro e w10 ⟨rfl,hb⟩;refine⟨_,rfl,?_⟩;replace HB:=ah.mk (ai (zb HB) hb);(try clear hb))|((with_reducible refine gq 105 rfl ?_);refine gl (some 18) Tryz.func105 #[.int .i64 (a0.size:Int),.int .i64 7,.int .i64 0] ?_;(with_reducible refine(aX.calls k (a0.size:Int) 7 0 Pt _ A8.out).mono ?_);rintro e w11 ⟨rfl,hb⟩;refine⟨_,rfl,?_⟩;replace HB:=ah.mk (ai (zb HB) hb);(try clear hb)))
   go_ret
   exact⟨ze,zb HB⟩
  ·skip
   exact absurd H (by simp)
def dU.f(k:Nat)(a0:Int)(a1:Int)(a2:Int)(Le:ByteArray)(a1G:ByteArray)(a1H:Bool):Option (ByteArray):=if a0>0 then((aX.f k a0 a1 a2).bind fun a1I=>(some a1I))else((aX.f k 0 a1 a2).bind fun Pv=>((fe.f k Le).bind fun Pw=>(if Pv.size+Pw.size≤9223372036854775807 then(some (Pv++Pw))else(none))))
theorem dU.mono:∀a0 a1 a2 a3 a4 a5 k,gM (dU.f k a0 a1 a2 a3 a4 a5) (dU.f (k+1) a0 a1 a2 a3 a4 a5):=by
 intro a0 a1 a2 a3 a4 a5 k
 unfold dU.f
 have m0:=@aX.mono
 have m1:=@fe.mono
 exact zm
def dU.T3:Bool×List (List Nat×List Nat):=(true,[([],[]),([],[]),([0,1],[0,1]),([],[]),([3],[3]),([4,2],[4]),([2,5],[2,5]),([6,5,0,1,2,3,4,5,6],[6])])
def dU.B3:List Nat:=[0,0,3,0,8,31,63,127]
theorem dU.tab3:jG .any (opsOf Tryz.f103 3)=dU.T3:=by kernel_rfl
theorem dU.bits3:fQ dU.T3.2 dU.B3=true:=by kernel_rfl
theorem dU.calls(k:Nat)(a0:Int)(a1:Int)(a2:Int)(Le:ByteArray)(a1G:ByteArray)(a1H:Bool)(r:ByteArray)(w:World)(h:dU.f k a0 a1 a2 Le a1G a1H=some r):
 Calls Tryz.prog 103 #[.int .i64 a0,.int .i64 a1,.int .i64 a2,.agg #[.string Le,.string a1G,.bool a1H]] w fun e w'=>e= .returned (.string r)∧Below w.heap.size w w':=by
 have sN:=Tryz.underlying89
 have HB:=ah.mk (Below.refl w.heap.size w)
 have H:(if a0>0 then((aX.f k a0 a1 a2).bind fun a1I=>(some a1I))else((aX.f k 0 a1 a2).bind fun Pv=>((fe.f k Le).bind fun Pw=>(if Pv.size+Pw.size≤9223372036854775807 then(some (Pv++Pw))else(none)))))=some r:=h
 clear h
 replace H:=sp H
 rcases H with⟨c5,H⟩|⟨c5,H⟩
 ·skip
  have c5b0:=decide_eq_true c5
  clear c5
  obtain⟨a1I,A6,H⟩:=ob H
  (try dsimp only at H)
  obtain rfl:=Option.some.inj H
  go_enter Tryz.func103,Tryz.ntmps103
  go_wp2_with (first|((with_reducible refine gd 7 rfl ?_);refine bx (N:=7) (cs:=#[.string Le,.string a1G,.bool a1H]) (t:=89) ?_;intro apA hg w7 hbox hb;have uo:=ah.mk (hbox);have a1J:=gw HB hg;have apB:=a1J;replace HB:=ah.mk (ai (zb HB) hb);clear hb hbox hg)|((with_reducible refine gq 105 rfl ?_);refine gl (some 14) Tryz.func105 #[.int .i64 a0,.int .i64 a1,.int .i64 a2] ?_;(with_reducible refine(aX.calls k a0 a1 a2 a1I _ A6.out).mono ?_);rintro e w8 ⟨rfl,hb⟩;refine⟨_,rfl,?_⟩;replace uo:=kb uo hb;replace HB:=ah.mk (ai (zb HB) hb);(try clear hb)))
  go_ret
  exact⟨ze,zb HB⟩
 ·skip
  have c5b0:=decide_eq_false c5
  clear c5
  obtain⟨Pv,A9,H⟩:=ob H
  (try dsimp only at H)
  obtain⟨Pw,Qx,H⟩:=ob H
  (try dsimp only at H)
  replace H:=sp H
  rcases H with⟨c11,H⟩|⟨c11,H⟩
  ·skip
   have c11b0:=eq_true c11
   have c11b1:=decide_eq_true c11
   try have c11b2:(9223372036854775807<Pv.size+Pw.size)=False:=eq_false (Nat.not_lt.2 c11)
   obtain rfl:=Option.some.inj H
   go_enter Tryz.func103,Tryz.ntmps103
   try go_wp2_with (first|((with_reducible refine gd 7 rfl ?_);refine bx (N:=7) (cs:=#[.string Le,.string a1G,.bool a1H]) (t:=89) ?_;intro apA hg Xu hbox hb;have uo:=ah.mk (hbox);have a1J:=gw HB hg;have apB:=a1J;replace HB:=ah.mk (ai (zb HB) hb);clear hb hbox hg))
   replace uo:=ah.mk (dw uo.out)
   replace HB:=ah.mk (dF HB.out)
   refine st 8 (b3 uo) (fun hHeld=>?_);refine bK dU.tab3 dU.bits3 (fun HT_ HW_=>?_)
   generalize Xu.drew=w13 at uo HB hHeld ⊢
   refine pu 0 (some 15) (bm 8 1) rfl rfl ?_
   refine pu 1 (some 16) (bm 8 3) rfl rfl ?_
   refine pu 3 (some 18) (bm 8 11) rfl rfl ?_
   refine tk 4 (some 19) (bm 8 27) rfl rfl hHeld ?_
   refine iN (i:=2) (N:=some 17) (bm 8 31) rfl rfl (eG HT_.out (by kernel_rfl)) (by decide) (fun K hK=>?_)
   refine gs Tryz.func105 #[.int .i64 0,.int .i64 a1,.int .i64 a2] ?_
   with_reducible refine(aX.calls k 0 a1 a2 Pv _ A9.out).mono ?_
   rintro e DX ⟨rfl,hb⟩
   refine⟨_,rfl,?_⟩
   replace uo:=kb uo hb
   replace HB:=ah.mk (ai (zb HB) hb)
   (try clear hb)
   refine hK.out _ _ (b3 uo) (fun hHeld=>?_)
   clear hK K
   refine nm ?_
   refine iN (i:=5) (N:=some 20) (bm 8 63) rfl rfl (eG HT_.out (by kernel_rfl)) (by decide) (fun K hK=>?_)
   refine gs Tryz.func104 #[.string Le] ?_
   with_reducible refine(fe.calls k Le Pw _ Qx.out).mono ?_
   rintro e w15 ⟨rfl,hb⟩
   refine⟨_,rfl,?_⟩
   replace uo:=kb uo hb
   replace HB:=ah.mk (ai (zb HB) hb)
   (try clear hb)
   refine hK.out _ _ (b3 uo) (fun hHeld=>?_)
   clear hK K
   refine nm ?_
   refine pu 6 (some 21) (bm 8 127) rfl rfl ?_
   refine pu 7 (some 8) (bm 8 255) rfl rfl ?_
   refine lq (jC HT_.out (by kernel_rfl)) ?_
   try go_wp2
   go_ret
   exact⟨ze,zb HB⟩
  ·skip
   exact absurd H (by simp)
def cB.f(k:Nat)(aH:List (bf))(aA:Int)(j6:ByteArray)(iO:ByteArray)(mh:Bool):Option ((List (bf))×Int×ByteArray):=(bI.f k aH aA j6 iO mh).bind fun Bf=>(if mh=true then((dU.f k Bf.1 4 1 j6 iO mh).bind fun Px=>((fe.f k iO).bind fun Py=>(if Px.size+Py.size≤9223372036854775807 then(some (aH,aA,Px++Py))else(none))))else(if Bf.2=true then((aX.f k Bf.1 7 1).bind fun a1K=>(some (aH,aA,a1K)))else((dV.f k aH aA j6 iO mh).bind fun Pz=>((dU.f k Bf.1 6 1 j6 iO mh).bind fun PD=>((fe.f k iO).bind fun PE=>(if PD.size+PE.size≤9223372036854775807 then(some (Pz.1,Pz.2,PD++PE))else(none)))))))
theorem cB.mono:∀a0 a1 a2 a3 a4 k,gM (cB.f k a0 a1 a2 a3 a4) (cB.f (k+1) a0 a1 a2 a3 a4):=by
 intro a0 a1 a2 a3 a4 k
 unfold cB.f
 have m0:=@dU.mono
 have m1:=@aX.mono
 have m2:=@fe.mono
 have m3:=@dV.mono
 have m4:=@bI.mono
 exact zm
def cB.T3:Bool×List (List Nat×List Nat):=(true,[([],[]),([],[]),([],[]),([1,2],[1,2]),([],[]),([4],[4]),([5,3],[5]),([3,6],[3,6]),([0,6,0],[0]),([7,8,0,1,2,3,4,5,6,7,8],[7])])
def cB.B3:List Nat:=[0,0,0,6,0,16,62,126,127,511]
theorem cB.tab3:jG .any (opsOf Tryz.f98 3)=cB.T3:=by kernel_rfl
theorem cB.bits3:fQ cB.T3.2 cB.B3=true:=by kernel_rfl
def cB.T6:Bool×List (List Nat×List Nat):=(true,[([],[]),([],[]),([0,1],[0,1]),([],[]),([],[]),([3,4,2],[3,4]),([],[]),([6],[6]),([7,5],[7]),([5,8],[5,8]),([2,8,0,1,2],[2]),([9,10,0,1,2,3,4,5,6,7,8,9,10],[9])])
def cB.B6:List Nat:=[0,0,3,0,0,31,0,64,255,511,511,2047]
theorem cB.tab6:jG .any (opsOf Tryz.f98 6)=cB.T6:=by kernel_rfl
theorem cB.bits6:fQ cB.T6.2 cB.B6=true:=by kernel_rfl
theorem cB.calls(k:Nat)(jw:Nat→Prop)(l8:Value)(aH:List (bf))(aA:Int)(j6:ByteArray)(iO:ByteArray)(mh:Bool)(r1:List (bf))(r2:Int)(r3:ByteArray)(w0 w:World)(hB:Below w0.heap.size w0 w)(Gi:Kd.R iH 89 w w0.heap.size jw l8 aH)(h:cB.f k aH aA j6 iO mh=some (r1,r2,r3)):
 Calls Tryz.prog 98 #[.agg #[l8,.int .i64 aA],.agg #[.string j6,.string iO,.bool mh]] w fun e w'=>∃vM:Value,e= .returned (.tuple #[.agg #[vM,.int .i64 r2],.string r3])∧Kd.R iH 89 w' w0.heap.size (fun k_=>(jw k_∨w.heap.size≤k_)) vM r1∧Below w0.heap.size w0 w'∧Kept w w' (fun _=>False):=by
 have Ab:=Tryz.underlying25
 have sN:=Tryz.underlying89
 have bH:=ah.mk (show Kd.R iH 89 w w0.heap.size (fun k_=>(jw k_∨w.heap.size≤k_)) l8 aH from Kd.R_mono Gi (fun k_ hk=>(.inl hk)))
 have HK:=ah.mk (Kept.refl w (fun _=>False))
 have HW0:=ah.mk hB.size
 have HB:=ah.mk hB
 clear hB
 have H:((bI.f k aH aA j6 iO mh).bind fun Bf=>(if mh=true then((dU.f k Bf.1 4 1 j6 iO mh).bind fun Px=>((fe.f k iO).bind fun Py=>(if Px.size+Py.size≤9223372036854775807 then(some (aH,aA,Px++Py))else(none))))else(if Bf.2=true then((aX.f k Bf.1 7 1).bind fun a1K=>(some (aH,aA,a1K)))else((dV.f k aH aA j6 iO mh).bind fun Pz=>((dU.f k Bf.1 6 1 j6 iO mh).bind fun PD=>((fe.f k iO).bind fun PE=>(if PD.size+PE.size≤9223372036854775807 then(some (Pz.1,Pz.2,PD++PE))else(none))))))))=some (r1,r2,r3):=h
 clear h
 obtain⟨⟨RP,apC⟩,A3,H⟩:=ob H
 (try dsimp only at H)
 have HC4:=ah.mk H
 clear H
 obtain⟨Ao5,co5,eo5⟩:=Kd.R_slice bH.out
 subst eo5
 go_enter Tryz.func98,Tryz.ntmps98
 go_upto_if 14 with(first|((with_reducible refine gd 2 rfl ?_);refine bx (N:=2) (cs:=#[.slice Ao5 aH.length co5,.int .i64 aA]) (t:=25) ?_;intro adB hg w6 hbox hb;replace bH:=ah.mk (Kd.R_below (zr bH) hb);have iQ:=ah.mk (hbox);have apD:=ah.mk ((by rw[hg];exact(kz (w:=w)).1:w.heap.size≤adB));replace HK:=kq hb;have aOf:=ah.mk ((by rw[hg];exact(aJ (zb HB)):w0.heap.size≤adB));replace HB:=ah.mk (ai (zb HB) hb);clear hb hbox hg)|((with_reducible refine gd 3 rfl ?_);refine bx (N:=3) (cs:=#[.string j6,.string iO,.bool mh]) (t:=89) ?_;intro a1L hg w7 hbox hb;replace bH:=ah.mk (Kd.R_below (Kd.R_elderB (zr bH) a1L (Nat.le_of_eq hg.symm)) hb);have jl:=ah.mk (hbox);have apE:=ah.mk ((by rw[hg];exact(kz (w:=w)).1:w.heap.size≤a1L));replace HK:=kq hb;have aOg:=ah.mk ((by rw[hg];exact(aJ (zb HB)):w0.heap.size≤a1L));replace HB:=ah.mk (ai (zb HB) hb);obtain⟨XU,XV⟩:=nb iQ hg;replace iQ:=kb iQ hb;clear hb hbox hg)|((with_reducible refine gd 4 rfl ?_);refine bx (N:=4) (cs:=#[.slice none 0 0,.int .i64 0]) (t:=25) ?_;intro jy hg w8 hbox hb;replace bH:=ah.mk (Kd.R_below (zr bH) hb);have iK:=ah.mk (hbox);have apF:=ah.mk ((by rw[hg];exact(kz (w:=w)).1:w.heap.size≤jy));replace HK:=kq hb;have aOh:=ah.mk ((by rw[hg];exact(aJ (zb HB)):w0.heap.size≤jy));replace HB:=ah.mk (ai (zb HB) hb);obtain⟨ig,oV⟩:=nb iQ hg;replace iQ:=kb iQ hb;obtain⟨iy,oW⟩:=nb jl hg;replace jl:=kb jl hb;clear hb hbox hg;have amZ:=XU.out;have an0:=XV.out;have aOi:=ig.out;have aOj:=oV.out;obtain⟨TL,TM,TN,TP⟩:=c2 iQ;have anT:=iy.out;have anU:=oW.out;obtain⟨KI,KJ,VE,KL,KM,VF⟩:=c3 jl)|((with_reducible refine gq 102 rfl ?_);refine gl (some 11) Tryz.func102 #[.agg #[.slice Ao5 aH.length co5,.int .i64 aA],.agg #[.string j6,.string iO,.bool mh]] ?_;(with_reducible refine(bI.calls k _ _ aH aA j6 iO mh RP apC _ ?aN ?aQ A3.out).mono ?_);(case aN=>exact zc (Kd.R_reads' bH.out).2.2);(case aQ=>exact(Kd.R_reads' bH.out).2.1);rintro e DX ⟨rfl,hb⟩;refine⟨_,rfl,?_⟩;replace bH:=ah.mk (Kd.R_below (zr bH) hb);replace iQ:=kb iQ hb;replace jl:=kb jl hb;replace iK:=kb iK hb;replace HK:=kq hb;replace HB:=ah.mk (ai (zb HB) hb);(try clear hb);obtain⟨zM,zN,zO,zP,zQ,zR⟩:=c3 jl))
 (try simp only[Act.put,s1,s2,s3])
 have H:=HC4.out
 clear HC4
 by_cases c16:mh=true
 ·subst c16
  rw[if_pos rfl]at H
  obtain⟨Px,Xw,H⟩:=ob H
  (try dsimp only at H)
  obtain⟨Py,A18,H⟩:=ob H
  (try dsimp only at H)
  replace H:=sp H
  rcases H with⟨c19,H⟩|⟨c19,H⟩
  ·skip
   have c19b0:=eq_true c19
   have c19b1:=decide_eq_true c19
   try have c19b2:(9223372036854775807<Px.size+Py.size)=False:=eq_false (Nat.not_lt.2 c19)
   simp only[Option.some.injEq,Prod.mk.injEq]at H
   obtain⟨rfl,rfl,rfl⟩:=H
   try go_wp2
   replace bH:=ah.mk (Kd.R_drew bH.out)
   replace iQ:=ah.mk (dw iQ.out)
   replace jl:=ah.mk (dw jl.out)
   replace iK:=ah.mk (dw iK.out)
   replace HK:=ah.mk (Kept.drew HK.out)
   replace HB:=ah.mk (dF HB.out)
   refine st 10 (an (b2 iQ) (b3 jl)) (fun hHeld=>?_);refine bK cB.tab3 cB.bits3 (fun HT_ HW_=>?_)
   generalize DX.drew=w20 at bH iQ jl iK HK HB hHeld ⊢
   refine pu 1 (some 18) (bm 10 2) rfl rfl ?_
   refine pu 4 (some 21) (bm 10 18) rfl rfl ?_
   refine tk 0 (some 17) (bm 10 19) rfl rfl hHeld ?_
   refine tk 2 (some 19) (bm 10 23) rfl rfl hHeld ?_
   refine tk 5 (some 22) (bm 10 55) rfl rfl hHeld ?_
   refine iN (i:=3) (N:=some 20) (bm 10 63) rfl rfl (eG HT_.out (by kernel_rfl)) (by decide) (fun K hK=>?_)
   refine gs Tryz.func103 #[.int .i64 RP,.int .i64 4,.int .i64 1,.agg #[.string j6,.string iO,.bool true]] ?_
   with_reducible refine(dU.calls k RP 4 1 j6 iO true Px _ Xw.out).mono ?_
   rintro e w21 ⟨rfl,hb⟩
   refine⟨_,rfl,?_⟩
   replace bH:=ah.mk (Kd.R_below (zr bH) hb)
   replace iQ:=kb iQ hb
   replace jl:=kb jl hb
   replace iK:=kb iK hb
   replace HK:=kq hb
   replace HB:=ah.mk (ai (zb HB) hb)
   (try clear hb)
   refine hK.out _ _ (an (b2 iQ) (b3 jl)) (fun hHeld=>?_)
   clear hK K
   refine nm ?_
   refine iN (i:=6) (N:=some 23) (bm 10 127) rfl rfl (eG HT_.out (by kernel_rfl)) (by decide) (fun K hK=>?_)
   refine gs Tryz.func104 #[.string iO] ?_
   with_reducible refine(fe.calls k iO Py _ A18.out).mono ?_
   rintro e w22 ⟨rfl,hb⟩
   refine⟨_,rfl,?_⟩
   replace bH:=ah.mk (Kd.R_below (zr bH) hb)
   replace iQ:=kb iQ hb
   replace jl:=kb jl hb
   replace iK:=kb iK hb
   replace HK:=kq hb
   replace HB:=ah.mk (ai (zb HB) hb)
   (try clear hb)
   refine hK.out _ _ (an (b2 iQ) (b3 jl)) (fun hHeld=>?_)
   clear hK K
   refine nm ?_
   refine pu 7 (some 24) (bm 10 255) rfl rfl ?_
   refine iN (i:=8) (N:=none) (bm 10 511) rfl rfl (eG HT_.out (by kernel_rfl)) (by decide) (fun K hK=>?_)
   have aSt:w22.cell? ⟨jy,0,none⟩=some (.slice none 0 0):=(ak iK.out 0).trans rfl
   have aOk:=aj iK.out 0
   have az8:=ig.out
   have az9:=iy.out
   have aza:=oV.out
   have azb:=oW.out
   have aSu:w22.cell? ⟨jy,1,none⟩=some (.int .i64 0):=(ak iK.out 1).trans rfl
   have aOl:=aj iK.out 1
   have azc:=ig.out
   have azd:=iy.out
   have aze:=oV.out
   have azf:=oW.out
   refine oF (w1:=?_) (by rfl) rfl ?_ ?_
   rotate_left
   ·go_simp
    rfl
   refine hK.out _ _ (an ⟨((cell_far (p:=⟨jy,_,none⟩) ig.out _).trans (((cell_far (p:=⟨jy,_,none⟩) ig.out _).trans (hHeld.1.1)))),((cell_far (p:=⟨jy,_,none⟩) ig.out _).trans (((cell_far (p:=⟨jy,_,none⟩) ig.out _).trans (hHeld.1.2))))⟩ ⟨((cell_far (p:=⟨jy,_,none⟩) iy.out _).trans (((cell_far (p:=⟨jy,_,none⟩) iy.out _).trans (hHeld.2.1)))),((cell_far (p:=⟨jy,_,none⟩) iy.out _).trans (((cell_far (p:=⟨jy,_,none⟩) iy.out _).trans (hHeld.2.2.1)))),((cell_far (p:=⟨jy,_,none⟩) iy.out _).trans (((cell_far (p:=⟨jy,_,none⟩) iy.out _).trans (hHeld.2.2.2))))⟩) (fun hHeld=>?_)
   clear hK K
   refine pu 9 (some 5) (bm 10 1023) rfl rfl ?_
   refine lq (jC HT_.out (by kernel_rfl)) ?_
   try go_wp2
   refine bodyPost_ret (nG rfl _ _ jy 25 #[.slice Ao5 aH.length co5,.int .i64 aA] (0,0) _ rfl (zp iK) Tryz.underlying25 rfl (by kernel_rfl)) rfl ?_
   exact⟨_,ze,(Kd.R_mono (qj (Kd.R_types bH.out iK.out (by decide))) (fun _ hk=>hk.1.1)),zb HB,kz⟩
  ·skip
   exact absurd H (by simp)
 ·replace c16:=Bool.eq_false_iff.mpr c16
  subst c16
  rw[if_neg (show ¬(false=true) by decide)]at H
  by_cases Hl:apC=true
  ·subst Hl
   rw[if_pos rfl]at H
   obtain⟨a1K,A26,H⟩:=ob H
   (try dsimp only at H)
   simp only[Option.some.injEq,Prod.mk.injEq]at H
   obtain⟨rfl,rfl,rfl⟩:=H
   try go_wp2
   replace bH:=ah.mk (Kd.R_drew bH.out)
   replace iQ:=ah.mk (dw iQ.out)
   replace jl:=ah.mk (dw jl.out)
   replace iK:=ah.mk (dw iK.out)
   replace HK:=ah.mk (Kept.drew HK.out)
   replace HB:=ah.mk (dF HB.out)
   refine st 5 (b2 iQ) (fun hHeld=>?_)
   generalize DX.drew=w27 at bH iQ jl iK HK HB hHeld ⊢
   refine pu 1 (some 28) (bm 5 2) rfl rfl ?_
   refine tk 0 (some 27) (bm 5 3) rfl rfl hHeld ?_
   refine iN (i:=2) (N:=some 29) (bm 5 7) rfl rfl (by kernel_rfl) (by decide) (fun K hK=>?_)
   refine gs Tryz.func105 #[.int .i64 RP,.int .i64 7,.int .i64 1] ?_
   with_reducible refine(aX.calls k RP 7 1 a1K _ A26.out).mono ?_
   rintro e Yu ⟨rfl,hb⟩
   refine⟨_,rfl,?_⟩
   replace bH:=ah.mk (Kd.R_below (zr bH) hb)
   replace iQ:=kb iQ hb
   replace jl:=kb jl hb
   replace iK:=kb iK hb
   replace HK:=kq hb
   replace HB:=ah.mk (ai (zb HB) hb)
   (try clear hb)
   refine hK.out _ _ (b2 iQ) (fun hHeld=>?_)
   clear hK K
   refine nm ?_
   refine iN (i:=3) (N:=none) (bm 5 15) rfl rfl (by kernel_rfl) (by decide) (fun K hK=>?_)
   have agF:Yu.cell? ⟨jy,0,none⟩=some (.slice none 0 0):=(ak iK.out 0).trans rfl
   have a1v:=aj iK.out 0
   have L6:=ig.out
   have a9A:=iy.out
   have L8:=oV.out
   have a9B:=oW.out
   have apG:Yu.cell? ⟨jy,1,none⟩=some (.int .i64 0):=(ak iK.out 1).trans rfl
   have adC:=aj iK.out 1
   have VU:=ig.out
   have azg:=iy.out
   have VW:=oV.out
   have azh:=oW.out
   refine oF (w1:=?_) (by rfl) rfl ?_ ?_
   rotate_left
   ·go_simp
    rfl
   refine hK.out _ _ ⟨((cell_far (p:=⟨jy,_,none⟩) ig.out _).trans (((cell_far (p:=⟨jy,_,none⟩) ig.out _).trans (hHeld.1)))),((cell_far (p:=⟨jy,_,none⟩) ig.out _).trans (((cell_far (p:=⟨jy,_,none⟩) ig.out _).trans (hHeld.2))))⟩ (fun hHeld=>?_)
   clear hK K
   refine pu 4 (some 5) (bm 5 31) rfl rfl ?_
   refine lq (by kernel_rfl) ?_
   try go_wp2
   refine bodyPost_ret (nG rfl _ _ jy 25 #[.slice Ao5 aH.length co5,.int .i64 aA] (0,0) _ rfl (zp iK) Tryz.underlying25 rfl (by kernel_rfl)) rfl ?_
   exact⟨_,ze,(Kd.R_mono (qj (Kd.R_types bH.out iK.out (by decide))) (fun _ hk=>hk.1.1)),zb HB,kz⟩
  ·replace Hl:=Bool.eq_false_iff.mpr Hl
   subst Hl
   rw[if_neg (show ¬(false=true) by decide)]at H
   obtain⟨⟨apH,apI⟩,A31,H⟩:=ob H
   (try dsimp only at H)
   obtain⟨PD,A32,H⟩:=ob H
   (try dsimp only at H)
   obtain⟨PE,A33,H⟩:=ob H
   (try dsimp only at H)
   replace H:=sp H
   rcases H with⟨c34,H⟩|⟨c34,H⟩
   ·skip
    have c34b0:=eq_true c34
    have c34b1:=decide_eq_true c34
    try have c34b2:(9223372036854775807<PD.size+PE.size)=False:=eq_false (Nat.not_lt.2 c34)
    simp only[Option.some.injEq,Prod.mk.injEq]at H
    obtain⟨rfl,rfl,rfl⟩:=H
    try go_wp2
    replace bH:=ah.mk (Kd.R_drew bH.out)
    replace iQ:=ah.mk (dw iQ.out)
    replace jl:=ah.mk (dw jl.out)
    replace iK:=ah.mk (dw iK.out)
    replace HK:=ah.mk (Kept.drew HK.out)
    replace HB:=ah.mk (dF HB.out)
    refine st 12 (an (b2 iQ) (b3 jl)) (fun hHeld=>?_);refine bK cB.tab6 cB.bits6 (fun HT_ HW_=>?_)
    generalize DX.drew=w35 at bH iQ jl iK HK HB hHeld ⊢
    refine pu 3 (some 33) (bm 12 8) rfl rfl ?_
    refine pu 6 (some 36) (bm 12 72) rfl rfl ?_
    refine tk 0 (some 30) (bm 12 73) rfl rfl hHeld ?_
    refine tk 1 (some 31) (bm 12 75) rfl rfl hHeld ?_
    refine tk 4 (some 34) (bm 12 91) rfl rfl hHeld ?_
    refine tk 7 (some 37) (bm 12 219) rfl rfl hHeld ?_
    refine iN (i:=2) (N:=some 32) (bm 12 223) rfl rfl (eG HT_.out (by kernel_rfl)) (by decide) (fun K hK=>?_)
    refine gs Tryz.func73 #[.agg #[.slice Ao5 aH.length co5,.int .i64 aA],.agg #[.string j6,.string iO,.bool false]] ?_
    with_reducible refine(dV.calls k _ _ aH aA j6 iO false apH apI _ ?aN ?aQ A31.out).mono ?_
    (case aN=>exact zc (Kd.R_reads' bH.out).2.2)
    (case aQ=>exact(Kd.R_reads' bH.out).2.1)
    rintro e w36 ⟨aSw,rfl,ho0,hb⟩
    refine⟨_,rfl,?_⟩
    have IZ:=ah.mk (Kd.R_lower (Kd.R_newB (Kd.R_new' (Kd.R_newM (M:=fun k_=>(jw k_∨w.heap.size≤k_)) ho0 (by first|exact HK.out.1|exact(show Kept w _ (fun _=>False)from by repeat(first|(with_reducible first|exact HK.out|apply Kept.alloc|apply Kept.drewN|apply Kept.drew|refine Kept.setCell ?_ (.inr apD.out) _|refine Kept.setCell ?_ (.inr apE.out) _|refine Kept.setCell ?_ (.inr apF.out) _)|exact HK.out)).1) (fun k_ h_=>.inr h_)) (Kd.R_lt (zr bH))) (zk jl)) (aJ (zb HB)))
    replace bH:=ah.mk (Kd.R_elder' (zr bH) (Kd.R_base ho0) hb)
    replace iQ:=kb iQ hb
    replace jl:=kb jl hb
    replace iK:=kb iK hb
    replace HK:=kq hb
    replace HB:=ah.mk (ai (zb HB) hb)
    (try clear hb)
    (try clear ho0)
    refine hK.out _ _ (an (b2 iQ) (b3 jl)) (fun hHeld=>?_)
    clear hK K
    refine nm ?_
    refine iN (i:=5) (N:=some 35) (bm 12 255) rfl rfl (eG HT_.out (by kernel_rfl)) (by decide) (fun K hK=>?_)
    refine gs Tryz.func103 #[.int .i64 RP,.int .i64 6,.int .i64 1,.agg #[.string j6,.string iO,.bool false]] ?_
    with_reducible refine(dU.calls k RP 6 1 j6 iO false PD _ A32.out).mono ?_
    rintro e w37 ⟨rfl,hb⟩
    refine⟨_,rfl,?_⟩
    replace bH:=ah.mk (Kd.R_below (zr bH) hb)
    replace IZ:=ah.mk (Kd.R_below (zr IZ) hb)
    replace iQ:=kb iQ hb
    replace jl:=kb jl hb
    replace iK:=kb iK hb
    replace HK:=kq hb
    replace HB:=ah.mk (ai (zb HB) hb)
    (try clear hb)
    refine hK.out _ _ (an (b2 iQ) (b3 jl)) (fun hHeld=>?_)
    clear hK K
    refine nm ?_
    refine iN (i:=8) (N:=some 38) (bm 12 511) rfl rfl (eG HT_.out (by kernel_rfl)) (by decide) (fun K hK=>?_)
    refine gs Tryz.func104 #[.string iO] ?_
    with_reducible refine(fe.calls k iO PE _ A33.out).mono ?_
    rintro e w38 ⟨rfl,hb⟩
    refine⟨_,rfl,?_⟩
    replace bH:=ah.mk (Kd.R_below (zr bH) hb)
    replace IZ:=ah.mk (Kd.R_below (zr IZ) hb)
    replace iQ:=kb iQ hb
    replace jl:=kb jl hb
    replace iK:=kb iK hb
    replace HK:=kq hb
    replace HB:=ah.mk (ai (zb HB) hb)
    (try clear hb)
    obtain⟨agK,agL,a9U⟩:=Kd.R_slice IZ.out
    (first|subst a9U|(injection a9U with Dq NG Dr;have NH:=Dq.symm;have NI:=Dr.symm;clear Dq NG Dr;subst NH;subst NI))
    refine hK.out _ _ (an (b2 iQ) (b3 jl)) (fun hHeld=>?_)
    clear hK K
    refine nm ?_
    refine pu 9 (some 39) (bm 12 1023) rfl rfl ?_
    refine iN (i:=10) (N:=none) (bm 12 2047) rfl rfl (eG HT_.out (by kernel_rfl)) (by decide) (fun K hK=>?_)
    have aSx:w38.cell? ⟨jy,0,none⟩=some (.slice none 0 0):=(ak iK.out 0).trans rfl
    have aOm:=aj iK.out 0
    have azi:=ig.out
    have azj:=iy.out
    have azk:=oV.out
    have azl:=oW.out
    have aDK:w38.cell? ⟨jy,1,none⟩=some (.int .i64 0):=(ak iK.out 1).trans rfl
    have aoo:=aj iK.out 1
    have a9C:=ig.out
    have azm:=iy.out
    have a9D:=oV.out
    have azn:=oW.out
    refine oF (w1:=?_) (by rfl) rfl ?_ ?_
    rotate_left
    ·go_simp
     rfl
    refine hK.out _ _ (an ⟨((cell_far (p:=⟨jy,_,none⟩) ig.out _).trans (((cell_far (p:=⟨jy,_,none⟩) ig.out _).trans (hHeld.1.1)))),((cell_far (p:=⟨jy,_,none⟩) ig.out _).trans (((cell_far (p:=⟨jy,_,none⟩) ig.out _).trans (hHeld.1.2))))⟩ ⟨((cell_far (p:=⟨jy,_,none⟩) iy.out _).trans (((cell_far (p:=⟨jy,_,none⟩) iy.out _).trans (hHeld.2.1)))),((cell_far (p:=⟨jy,_,none⟩) iy.out _).trans (((cell_far (p:=⟨jy,_,none⟩) iy.out _).trans (hHeld.2.2.1)))),((cell_far (p:=⟨jy,_,none⟩) iy.out _).trans (((cell_far (p:=⟨jy,_,none⟩) iy.out _).trans (hHeld.2.2.2))))⟩) (fun hHeld=>?_)
    clear hK K
    refine pu 11 (some 5) (bm 12 4095) rfl rfl ?_
    refine lq (jC HT_.out (by kernel_rfl)) ?_
    try go_wp2
    refine bodyPost_ret (nG rfl _ _ jy 25 #[.slice agK apH.length agL,.int .i64 apI] (0,0) _ rfl (zp iK) Tryz.underlying25 rfl (by kernel_rfl)) rfl ?_
    exact⟨_,ze,(Kd.R_mono (qj (Kd.R_types IZ.out iK.out (by decide))) (fun _ hk=>hk.1.1.1.1)),zb HB,kz⟩
   ·skip
    exact absurd H (by simp)
end Go.Proofs.YtokblgdgpnakpaaGreat.PFnEndLess
