/- FnEndLess holds: part 9 of a proof that the given program meets it (printed texts and walks of our own, made short by a program). No condition. -/
import Derived.Test.YtokblgdgpnakpaaGreatQ08
import Derived.ChangeOld
import Derived.OpenShut
import Derived.ProofKit
import Derived.ShutString
import Derived.Test.YtokblgdgpnakpaaGreatRows
set_option linter.unusedVariables false
set_option linter.unusedSimpArgs false
set_option maxHeartbeats 8000000
set_option maxRecDepth 100000
namespace Go.Proofs.YtokblgdgpnakpaaGreat.PFnEndLess
open Go.RowKit Go.Proofs.YtokblgdgpnakpaaGreatW.PrintWords Go.Proofs.YtokblgdgpnakpaaGreatW.PrintLast Go.Proofs.YtokblgdgpnakpaaGreatW.PrintMore Go.Proofs.YtokblgdgpnakpaaGreat.Lm
open Go.Proofs.YtokblgdgpnakpaaGreat.Pure
attribute [local go_sem] bF bD cZ d9 aY aX bH bI
theorem Td{b g:Nat}{l:List Int}{wr w:World}{M:Nat→Nat→Prop}{v:Value}{x:Int}(hw:TW b M w)(hb0:b≤w.heap.size)(hR:RB b wr g l)(hB0:Below wr.heap.size wr w)(hg:w.heap[g]?=some (.cells (rC v x).toArray 75 (0,0)))(hn:∀n,¬M g n)(hv:RV wr l v)(h0:0≤x)(h1:x≤800000):Calls Tryz.prog 46 #[.pointer (some ⟨g,0,none⟩)] w (a2j b wr g l (x+5000) M w 42000):=by
 have jr:=ah.mk hw
 have HW:ah (LW b (RX g) M w [⟨g,rC v x,75⟩] (fun _ _=>True) M w):=⟨LW.startR hw hg hn trivial (Mon.top _)⟩
 clear hw hg
 go_enter Tryz.func46,Tryz.ntmps46
 go_wp2_with (first|((with_reducible refine gd 3 rfl ?_);refine lbx (N:=3) (t:=47) HW zW ?_;clear HW;intro g3 pF HW)|((with_reducible refine gq 67 rfl ?_);refine gl (some 8) Tryz.func67 #[] ?_;with_reducible refine(Q7 HW.out.ts.tw (HW.out.hb hb0)).mono ?_;rintro e AX h_;obtain⟨E_,M_102,rfl,gQ,hE_⟩:=h_.out;refine⟨_,rfl,?_⟩;obtain⟨FN,FO,FP,FQ,FU,FV,FW,FX,FY,FZ,Cj,uP,yR,G5,G6,G7,G8,G9,Ba,Li,Lj,Ll,Lp,Lr,Ls,Lu,Lv,Lx,LA,LB,LC,LD,LF,LG,LH,LJ,LK,Ee,uQ,Gb,rfl,hF_,hG_,WS,WT,KX,KY,WU,WX⟩:=hE_.out4;clear hE_;replace HW:=ah.mk (((HW.out.call gQ).et hF_).et hG_);clear gQ hF_ hG_)|((with_reducible refine gd 4 rfl ?_);refine lbx (N:=4) (t:=47) HW zW ?_;clear HW;intro g4 Ca HW)|((with_reducible refine aj (t:=47) (p:=4) rfl ?_);refine iA HW 0 ?_;clear HW;intro xH HW;(try simp only[List.set_cons_zero,List.set_cons_succ]at HW))|((with_reducible refine gd 9 rfl ?_);refine lbe (N:=9) (t:=99) HW (HW.out.hb hb0) ?_;intro v_ aDY PK HN pJ gQ;obtain⟨aDZ,n106,yP,rfl,Wz⟩:∃A n c,v_= .slice A n c∧n=0:=pJ.zero;subst Wz;replace HW:=ah.mk (LW.sl HN.out pJ);clear HN pJ gQ)|((with_reducible refine gq 22 rfl ?_);refine gl (some 11) Tryz.func22 #[(.pointer (some ⟨g,0,none⟩)),(.int .i64 59)] ?_;with_reducible refine(gK 59 hR (HW.out.under hR hB0 jr.out) (HW.out.at 2 rfl) hv h0 (by omega) (by omega)).mono ?_;rintro e AU ⟨aON,aIz,aIA,rfl,aiW,aiX,dK⟩;refine⟨_,rfl,?_⟩;have aaL:=dK.rv;have aaM:=dK.x0;have aAw:=dK.x1;replace HW:=ah.mk (HW.out.rd 2 dK rfl);(try simp only[List.set_cons_zero,List.set_cons_succ]at HW);clear dK;have aIB:=eq_true aiW;have aIC:=eq_true aiX))
 go_loopg [5,6] (100) (fun kq y5 y6 wq=>∃(Mq:Nat→Nat→Prop)(x0q:Bool)(A1q:Option Addr)(n1q:Nat)(c1q:Nat)(x2q:Int)(A3q:Option Addr)(n3q:Nat)(c3q:Nat)(x4q:Int)(x5q:ByteArray)(A6q:Option Addr)(n6q:Nat)(c6q:Nat)(x7q:Int)(x8q:Int)(A9q:Option Addr)(n9q:Nat)(c9q:Nat)(x10q:Bool)(y0q:Bool)(B1q:Option Addr)(m1q:Nat)(k1q:Nat)(y2q:Int)(B3q:Option Addr)(m3q:Nat)(k3q:Nat)(y4q:Int)(y5q:ByteArray)(B6q:Option Addr)(m6q:Nat)(k6q:Nat)(y7q:Int)(y8q:Int)(B9q:Option Addr)(m9q:Nat)(k9q:Nat)(y10q:Bool)(suq:ByteArray)(sdq:ByteArray)(Aq:Option Addr)(nq:Nat)(cq:Nat)(vq:Value)(xq:Int)(Nq:Nat)(Eq:Nat)(iq:Int),(y5= .slice Aq nq cq)∧(y6= .int .i64 iq)∧ah (0≤iq∧iq.toNat≤kq∧Nq+700*iq.toNat≤41000∧RV wr l vq∧0≤xq∧xq+80*iq≤x+4900∧suq.size≤800∧sdq.size≤800∧Eq+iq.toNat≤100∧nq≤Eq)∧ah (LW b (RX g) M w [⟨g4,wC x0q (.slice A1q n1q c1q) x2q (.slice A3q n3q c3q) x4q x5q (.slice A6q n6q c6q) x7q x8q (.slice A9q n9q c9q) x10q y0q (.slice B1q m1q k1q) y2q (.slice B3q m3q k3q) y4q y5q (.slice B6q m6q k6q) y7q y8q (.slice B9q m9q k9q) y10q suq sdq,47⟩,⟨g3,wC false (.slice none 0 0) 0 (.slice none 0 0) 0 (⟨#[]⟩:ByteArray) (.slice none 0 0) 0 0 (.slice none 0 0) false false (.slice none 0 0) 0 (.slice none 0 0) 0 (⟨#[]⟩:ByteArray) (.slice none 0 0) 0 0 (.slice none 0 0) false (⟨#[]⟩:ByteArray) (⟨#[]⟩:ByteArray),47⟩,⟨g,rC vq xq,75⟩] (fun M w=>(((xw b Nq 700 (.slice A1q n1q c1q) x2q (.slice A3q n3q c3q) x4q x5q (.slice A6q n6q c6q) (.slice A9q n9q c9q)) M w)∧(xw b Nq 700 (.slice B1q m1q k1q) y2q (.slice B3q m3q k3q) y4q y5q (.slice B6q m6q k6q) (.slice B9q m9q k9q)) M w)∧(Ya 99 Eq (.slice Aq nq cq)) M w) Mq wq))
 case atStart=>exact⟨_,_,_,_,_,_,_,_,_,_,_,_,_,_,_,_,_,_,_,_,_,_,_,_,_,_,_,_,_,_,_,_,_,_,_,_,_,_,_,_,_,_,_,_,_,_,0,0,_,rfl,rfl,⟨⟨(by omega),(by omega),(by omega),aaL,aaM,(by omega),(by omega),(by omega),(by omega),(by omega)⟩⟩,⟨LW.less HW.out ⟨⟨(HW.out.g.1.1.2.up (by omega)),(HW.out.g.1.2.up (by omega))⟩,(HW.out.g.2.mono (N':=0) (by omega))⟩ (Mon.and (Mon.and (Mon.et _ _ _ _ _ _ _ _ _) (Mon.et _ _ _ _ _ _ _ _ _)) (Mon.sl _ _ _))⟩⟩
 case round=>
  clear HW
  obtain⟨Mq,x0q,A1q,n1q,c1q,x2q,A3q,n3q,c3q,x4q,x5q,A6q,n6q,c6q,x7q,x8q,A9q,n9q,c9q,x10q,y0q,B1q,m1q,k1q,y2q,B3q,m3q,k3q,y4q,y5q,B6q,m6q,k6q,y7q,y8q,B9q,m9q,k9q,y10q,suq,sdq,Aq,nq,cq,vq,xq,Nq,Eq,iq,rfl,rfl,HI,HC⟩:=hrel
  have HW:=HC
  clear HC
  obtain⟨aAx,aAy,aAz,WY,WZ,aAA,LM,LP,aAB,aAC⟩:=HI.out
  go_upto_if 13 with(fail)
  by_cases yQ:iq>0
  ·skip
   have CW:=decide_eq_true yQ
   go_upto_if 21 with(first|((with_reducible refine gd 17 rfl ?_);refine CU HW 0 0 ?_)|((with_reducible refine gq 68 rfl ?_);refine gl (some 18) Tryz.func68 #[(.pointer (some ⟨g,0,none⟩)),(.agg (wC _ _ _ _ _ _ _ _ _ _ _ _ _ _ _ _ _ _ _ _ _ _ _ _).toArray)] ?_;with_reducible refine(PL HW.out.ts.tw (HW.out.hb hb0) hR (HW.out.under hR hB0 jr.out) (HW.out.at 2 rfl) (HW.out.noM 2 rfl) WY WZ (by omega) (N:=Nq) (HW.out.g.1.1.up (by omega)) (HW.out.g.1.2.up (by omega)) (by omega)).mono ?_;rintro e Cb h_;obtain⟨E_,M_111,aID,aIE,rfl,dK,hE_⟩:=h_.out;refine⟨_,rfl,?_⟩;obtain⟨a3d,a3e,a3f,a3g,a3h,rfl,aAD,aAE⟩:=hE_.out;clear hE_;have X0:=dK.rv;have X3:=dK.x0;have aAF:=dK.x1;replace HW:=ah.mk (HW.out.rt 2 dK rfl);(try simp only[List.set_cons_zero,List.set_cons_succ]at HW);clear dK)|((with_reducible refine gd 7 rfl ?_);refine lbx (N:=7) (t:=99) HW (vC 0 0 0 (⟨#[]⟩:ByteArray) (⟨#[]⟩:ByteArray)) ?_;clear HW;intro g7 AV HW)|((with_reducible refine aj (t:=99) (p:=7) rfl ?_);refine iA HW 0 ?_;clear HW;intro Dh HW;(try simp only[List.set_cons_zero,List.set_cons_succ]at HW)))
   by_cases Cg:(nq:Int)=0
   ·skip
    have a2F:((nq:Int)==0)=true:=beq_iff_eq.mpr Cg
    have a2G:((nq:Int) != 0)=false:=bne_eq_false_iff_eq.mpr Cg
    have apU:=ah.mk Cg
    clear Cg
    go_wp2_with (first|((with_reducible refine gq 69 rfl ?_);refine gl (some 23) Tryz.func69 #[(.pointer (some ⟨g,0,none⟩))] ?_;with_reducible refine(KF hR (HW.out.under hR hB0 jr.out) (HW.out.at 3 rfl) X0 X3 (by omega)).mono ?_;rintro e yL ⟨adv,aIF,aIG,rfl,aIH,dK⟩;refine⟨_,rfl,?_⟩;have aaN:=dK.rv;have aaO:=dK.x0;have aAG:=dK.x1;replace HW:=ah.mk (HW.out.rd 3 dK rfl);(try simp only[List.set_cons_zero,List.set_cons_succ]at HW);clear dK)|((with_reducible refine gq 70 rfl ?_);refine gl (some 25) Tryz.func70 #[(.pointer (some ⟨g,0,none⟩))] ?_;with_reducible refine(KG hR (HW.out.under hR hB0 jr.out) (HW.out.at 3 rfl) aaN aaO (by omega)).mono ?_;rintro e xI ⟨adw,agI,agJ,rfl,aII,dK⟩;refine⟨_,rfl,?_⟩;have DZ:=dK.rv;have E5:=dK.x0;have a9G:=dK.x1;replace HW:=ah.mk (HW.out.rd 3 dK rfl);(try simp only[List.set_cons_zero,List.set_cons_succ]at HW);clear dK)|((with_reducible refine aj (t:=99) (p:=7) rfl ?_);refine iA HW 0 ?_;clear HW;intro Cc HW;(try simp only[List.set_cons_zero,List.set_cons_succ]at HW))|((with_reducible refine gd 28 rfl ?_);refine uN HW 0 0 (vC _ _ _ _ _) Tryz.underlying99 ?_)|((with_reducible refine gd 29 rfl ?_);refine Y9 (N:=29) (t:=99) (m:=1) HW (vC 1 0 0 adv adw) ?_;clear HW;intro g29 yN HW)|((with_reducible refine gd 30 rfl ?_);refine lap (T:=99) (m:=1) (bytes:=56) (z:=.agg (vC 0 0 0 (⟨#[]⟩:ByteArray) (⟨#[]⟩:ByteArray)).toArray) (news:=vC 1 0 0 adv adw) HW (HW.out.g.2) (HW.out.hb hb0) rfl (vX HW.out (i:=0) rfl) (fP rfl) (by decide) (fun i hi=>by obtain rfl:i=0:=(by omega);exact .inr (.inr ⟨rfl,rfl,fP rfl⟩)) (by kernel_rfl) (by rfl) (by decide) (by omega) (by simp only[maxLen];omega) Tryz.underlying76 ?_;intro agz agA aDJ AR HN gQ pJ;replace HW:=ah.mk (LW.fact (H:=Ya 99 (Eq+1) (.slice agz (nq+1) agA)) HN.out pJ (Mon.sl _ _ _));clear HN pJ gQ)|((with_reducible refine gd 31 rfl ?_);refine CU HW 2 0 ?_)|((with_reducible refine gd 32 rfl ?_);refine uN HW 1 0 (vC _ _ _ _ _) Tryz.underlying99 ?_)|((with_reducible refine gq 71 rfl ?_);refine gl (some 33) Tryz.func71 #[(.agg (wC _ _ _ _ _ _ _ _ _ _ _ _ _ _ _ _ _ _ _ _ _ _ _ _).toArray),(.agg (vC _ _ _ _ _).toArray)] ?_;with_reducible refine(Q9 HW.out.ts.tw (HW.out.hb hb0) (N:=Nq) (HW.out.g.1.1.1.up (by omega)) (HW.out.g.1.1.2.up (by omega)) (by omega) LM LP (by omega) (by omega)).mono ?_;rintro e Fv h_;obtain⟨E_,M_123,rfl,gQ,hE_⟩:=h_.out;refine⟨_,rfl,?_⟩;obtain⟨aIJ,aIK,aIL,aIM,aIN,aIO,aIP,aIQ,aIR,aIS,aIT,aIU,aIV,aIW,aIX,aIY,aIZ,aJ0,aAH,aJ1,aJ2,aJ3,aJ4,aJ5,aJ6,aJ7,aJ8,aJ9,aJa,aJb,aJc,aJd,aJe,aJf,aJg,aJh,aJi,aAI,aJj,aJk,rfl,hF_,hG_,aAJ,aAK,aAL,aAM,aAN,aAO⟩:=hE_.out4;clear hE_;replace HW:=ah.mk (((HW.out.call gQ).et hF_).et hG_);clear gQ hF_ hG_)|((with_reducible refine aj (t:=47) (p:=4) rfl ?_);refine iA HW 2 ?_;clear HW;intro KI HW;(try simp only[List.set_cons_zero,List.set_cons_succ]at HW)))
    go_roundg ((iq-1).toNat)
    case measure=>omega
    case rel=>exact⟨_,_,_,_,_,_,_,_,_,_,_,_,_,_,_,_,_,_,_,_,_,_,_,_,_,_,_,_,_,_,_,_,_,_,_,_,_,_,_,_,_,_,_,_,_,_,(Nq+700),(Eq+1),_,rfl,rfl,⟨⟨(by omega),(by omega),(by omega),DZ,E5,(by omega),(by omega),(by omega),(by omega),(by omega)⟩⟩,⟨LW.less HW.out.drop.drop ⟨⟨(HW.out.g.1.2.up (by omega)),(HW.out.g.2.up (by omega))⟩,(HW.out.g.1.1.2.mono (N':=(Eq+1)) (by omega))⟩ (Mon.and (Mon.and (Mon.et _ _ _ _ _ _ _ _ _) (Mon.et _ _ _ _ _ _ _ _ _)) (Mon.sl _ _ _))⟩⟩
   ·skip
    have a2F:((nq:Int)==0)=false:=beq_eq_false_iff_ne.mpr Cg
    have a2G:((nq:Int) != 0)=true:=bne_iff_ne.mpr Cg
    go_wp2_with (first|((with_reducible refine gd 28 rfl ?_);refine uN HW 0 0 (vC _ _ _ _ _) Tryz.underlying99 ?_)|((with_reducible refine gd 29 rfl ?_);refine Y9 (N:=29) (t:=99) (m:=1) HW (vC a3d a3e a3f a3g a3h) ?_;clear HW;intro g29 KJ HW)|((with_reducible refine gd 30 rfl ?_);refine lap (T:=99) (m:=1) (bytes:=56) (z:=.agg (vC 0 0 0 (⟨#[]⟩:ByteArray) (⟨#[]⟩:ByteArray)).toArray) (news:=vC a3d a3e a3f a3g a3h) HW (HW.out.g.2) (HW.out.hb hb0) rfl (vX HW.out (i:=0) rfl) (fP rfl) (by decide) (fun i hi=>by obtain rfl:i=0:=(by omega);exact .inr (.inr ⟨rfl,rfl,fP rfl⟩)) (by kernel_rfl) (by rfl) (by decide) (by omega) (by simp only[maxLen];omega) Tryz.underlying76 ?_;intro aJl c127 aSJ PE HN gQ pJ;replace HW:=ah.mk (LW.fact (H:=Ya 99 (Eq+1) (.slice aJl (nq+1) c127)) HN.out pJ (Mon.sl _ _ _));clear HN pJ gQ)|((with_reducible refine gd 31 rfl ?_);refine CU HW 2 0 ?_)|((with_reducible refine gd 32 rfl ?_);refine uN HW 1 0 (vC _ _ _ _ _) Tryz.underlying99 ?_)|((with_reducible refine gq 71 rfl ?_);refine gl (some 33) Tryz.func71 #[(.agg (wC _ _ _ _ _ _ _ _ _ _ _ _ _ _ _ _ _ _ _ _ _ _ _ _).toArray),(.agg (vC _ _ _ _ _).toArray)] ?_;with_reducible refine(Q9 HW.out.ts.tw (HW.out.hb hb0) (N:=Nq) (HW.out.g.1.1.1.up (by omega)) (HW.out.g.1.1.2.up (by omega)) (by omega) LM LP (by omega) (by omega)).mono ?_;rintro e Sd h_;obtain⟨E_,M_128,rfl,gQ,hE_⟩:=h_.out;refine⟨_,rfl,?_⟩;obtain⟨aJm,aJn,aJo,aJp,aJq,aJr,aJs,aJt,aJu,aJv,aJw,aJx,aJy,aJz,aJA,aJB,aJC,aJD,aAP,aJE,aJF,aJG,aJH,aJI,aJJ,aJK,aJL,aJM,aJN,aJO,aJP,aJQ,aJR,aJS,aJT,aJU,aJV,aAQ,aJW,aJX,rfl,hF_,hG_,aAR,aAS,aAT,aAU,aAV,aAW⟩:=hE_.out4;clear hE_;replace HW:=ah.mk (((HW.out.call gQ).et hF_).et hG_);clear gQ hF_ hG_)|((with_reducible refine aj (t:=47) (p:=4) rfl ?_);refine iA HW 2 ?_;clear HW;intro aar HW;(try simp only[List.set_cons_zero,List.set_cons_succ]at HW)))
    go_roundg ((iq-1).toNat)
    case measure=>omega
    case rel=>exact⟨_,_,_,_,_,_,_,_,_,_,_,_,_,_,_,_,_,_,_,_,_,_,_,_,_,_,_,_,_,_,_,_,_,_,_,_,_,_,_,_,_,_,_,_,_,_,(Nq+700),(Eq+1),_,rfl,rfl,⟨⟨(by omega),(by omega),(by omega),X0,X3,(by omega),(by omega),(by omega),(by omega),(by omega)⟩⟩,⟨LW.less HW.out.drop.drop ⟨⟨(HW.out.g.1.2.up (by omega)),(HW.out.g.2.up (by omega))⟩,(HW.out.g.1.1.2.mono (N':=(Eq+1)) (by omega))⟩ (Mon.and (Mon.and (Mon.et _ _ _ _ _ _ _ _ _) (Mon.et _ _ _ _ _ _ _ _ _)) (Mon.sl _ _ _))⟩⟩
  ·skip
   have CW:=decide_eq_false yQ
   go_upto_region 11 with(fail)
   refine Wj HW (fun _=>True) [3] 4 (trivial) (fun PO HN hHeld=>?_)
   replace HW:=HN
   clear HN
   refine pw 0 (some 34) rfl rfl ?_
   refine tk 1 (some 35) (bm 4 3) rfl rfl hHeld ?_ (hy:=yld _ 0 0 (wC _ _ _ _ _ _ _ _ _ _ _ _ _ _ _ _ _ _ _ _ _ _ _ _) Tryz.underlying47)
   refine pw 2 (some 2) rfl rfl ?_
   refine kJ (i:=3) (N:=none) (bm 4 15) rfl rfl (by kernel_rfl) (by decide) (fun K hK=>?_)
   refine gF (by rfl) ?_
   refine oQ HW 1 0 (.agg (wC _ _ _ _ _ _ _ _ _ _ _ _ _ _ _ _ _ _ _ _ _ _ _ _).toArray) (wC _ _ _ _ _ _ _ _ _ _ _ _ _ _ _ _ _ _ _ _ _ _ _ _) (wC _ _ _ _ _ _ _ _ _ _ _ _ _ _ _ _ _ _ _ _ _ _ _ _) ?_ (fP rfl)
   clear HW
   intro aal HW
   (try simp only[List.set_cons_zero,List.set_cons_succ]at HW)
   refine hK.out _ _ ?_
   clear hK K
   refine fw (by kernel_rfl) ?_
   go_wp2_with (fail)
   refine bodyPost_ret (Qn rfl _ _ g3 47 (wC _ _ _ _ _ _ _ _ _ _ _ _ _ _ _ _ _ _ _ _ _ _ _ _).toArray (0,0) _ rfl (HW.out.at 1 rfl) Tryz.underlying47 rfl (by kernel_rfl)) rfl ?_
   exact⟨_,_,_,_,_,rfl,⟨HW.out.ts,HW.out.at 2 rfl,WY,WZ,by omega⟩,⟨_,_,_,_,_,_,_,_,_,_,_,_,_,_,_,_,_,_,_,_,_,_,_,_,rfl,(HW.out.g.1.1.up (by omega)),(HW.out.g.1.2.up (by omega)),LM,LP⟩⟩
def jl.T6:Bool×List (List Nat×List Nat):=(true,[([],[]),([0],[0]),([],[]),([2],[2]),([3],[3]),([4,3],[4]),([1,5],[1,5]),([0,1,2,3,4,5,6],[]),([7,6,5,0,1,2,3,4,5,6],[6,7])])
def jl.B6:List Nat:=[0,1,0,4,12,28,63,127,255]
theorem jl.tab6:jm .any (opsOf Tryz.f21 6)=jl.T6:=by kernel_rfl
theorem jl.bits6:fQ jl.T6.2 jl.B6=true:=by kernel_rfl
def jl.T11:Bool×List (List Nat×List Nat):=(true,[([],[]),([0],[0]),([1],[1]),([],[]),([3],[3]),([2,0,1,2,3,4],[2]),([5,0,1,2,3,4],[5]),([6,4,4,0,1,2,3,4],[4,6])])
def jl.B11:List Nat:=[0,1,3,0,8,31,63,127]
theorem jl.tab11:jm .any (opsOf Tryz.f21 11)=jl.T11:=by kernel_rfl
theorem jl.bits11:fQ jl.T11.2 jl.B11=true:=by kernel_rfl
theorem Qa{b g:Nat}{l:List Int}{wr w:World}{M:Nat→Nat→Prop}{v:Value}{x:Int}(hw:TW b M w)(hb0:b≤w.heap.size)(hR:RB b wr g l)(hB0:Below wr.heap.size wr w)(hg:w.heap[g]?=some (.cells (rC v x).toArray 75 (0,0)))(hn:∀n,¬M g n)(hv:RV wr l v)(h0:0≤x)(h1:x≤700000):Calls Tryz.prog 21 #[.pointer (some ⟨g,0,none⟩)] w (RL b wr g l (x+7000) M w 42000):=by
 have jr:=ah.mk hw
 have HW:ah (LW b (RX g) M w [⟨g,rC v x,75⟩] (fun _ _=>True) M w):=⟨LW.startR hw hg hn trivial (Mon.top _)⟩
 clear hw hg
 go_enter Tryz.func21,Tryz.ntmps21
 go_upto_if 12 with(first|((with_reducible refine gd 2 rfl ?_);refine lbx (N:=2) (t:=47) HW zW ?_;clear HW;intro g2 pF HW)|((with_reducible refine gq 46 rfl ?_);refine gl (some 7) Tryz.func46 #[(.pointer (some ⟨g,0,none⟩))] ?_;with_reducible refine(Td HW.out.ts.tw (HW.out.hb hb0) hR (HW.out.under hR hB0 jr.out) (HW.out.at 1 rfl) (HW.out.noM 1 rfl) hv h0 (by omega)).mono ?_;rintro e AX h_;obtain⟨V_102,E_,M_102,aiY,aiZ,rfl,dK,hE_⟩:=h_.out;refine⟨_,rfl,?_⟩;obtain⟨FN,FO,FP,FQ,FU,FV,FW,FX,FY,FZ,Cj,uP,yR,G5,G6,G7,G8,G9,Ba,Li,Lj,Ll,Lp,Lr,Ls,Lu,Lv,Lx,LA,LB,LC,LD,LF,LG,LH,LJ,LK,Ee,uQ,Gb,rfl,hF_,hG_,WS,WT,KX,KY,WU,WX⟩:=hE_.out4;clear hE_;have LQ:=dK.rv;have LU:=dK.x0;have aaP:=dK.x1;replace HW:=ah.mk (HW.out.rt 1 dK rfl);(try simp only[List.set_cons_zero,List.set_cons_succ]at HW);clear dK;replace HW:=ah.mk ((HW.out.et hF_).et hG_);clear hF_ hG_)|((with_reducible refine gd 4 rfl ?_);refine lbx (N:=4) (t:=47) HW zW ?_;clear HW;intro g4 Ca HW)|((with_reducible refine aj (t:=47) (p:=4) rfl ?_);refine iA HW 0 ?_;clear HW;intro xH HW;(try simp only[List.set_cons_zero,List.set_cons_succ]at HW))|((with_reducible refine gq 22 rfl ?_);refine gl (some 11) Tryz.func22 #[(.pointer (some ⟨g,0,none⟩)),(.int .i64 40)] ?_;with_reducible refine(gK 40 hR (HW.out.under hR hB0 jr.out) (HW.out.at 2 rfl) LQ LU (by omega) (by omega)).mono ?_;rintro e vZ ⟨pY,Sb,Sc,rfl,Te,Tf,dK⟩;refine⟨_,rfl,?_⟩;have mK:=dK.rv;have mM:=dK.x0;have KL:=dK.x1;replace HW:=ah.mk (HW.out.rd 2 dK rfl);(try simp only[List.set_cons_zero,List.set_cons_succ]at HW);clear dK;have aj0:=eq_true Te;have aj1:=eq_true Tf))
 by_cases wh:pY=0
 ·skip
  subst wh
  go_wp2_with (first|((with_reducible refine aj (t:=4) (p:=15) rfl ?_);refine mP HW 0 0 (.bool true) (wC _ _ _ _ _ _ _ _ _ _ _ _ _ _ _ _ _ _ _ _ _ _ _ _) ([_]) ?_ (fP rfl);clear HW;intro AQ HW;(try simp only[List.set_cons_zero,List.set_cons_succ]at HW))|((with_reducible refine gd 46 rfl ?_);refine CU HW 0 0 ?_)|((with_reducible refine aj (t:=47) (p:=2) rfl ?_);refine iA HW 1 ?_;clear HW;intro Fz HW;(try simp only[List.set_cons_zero,List.set_cons_succ]at HW)))
  refine bodyPost_ret (results_cell_row rfl _ _ g2 47 (wC _ _ _ _ _ _ _ _ _ _ _ _ _ _ _ _ _ _ _ _ _ _ _ _).toArray (0,0) _ rfl (HW.out.at 1 rfl) Tryz.underlying47 rfl (by kernel_rfl)) rfl ?_
  exact⟨_,_,_,_,rfl,⟨HW.out.ts,HW.out.at 2 rfl,mK,mM,by omega⟩,⟨_,_,_,_,_,_,_,_,_,_,_,_,_,_,_,_,_,_,_,_,_,_,_,_,rfl,⟨(qU HW.out.g.1.2.t1),(qU HW.out.g.1.2.t3),HW.out.g.1.2.c5,(HW.out.g.1.2.s6.mono (N':=42000) (by omega)),(HW.out.g.1.2.s9.mono (N':=42000) (by omega))⟩,⟨(qU HW.out.g.2.t1),(qU HW.out.g.2.t3),HW.out.g.2.c5,(HW.out.g.2.s6.mono (N':=42000) (by omega)),(HW.out.g.2.s9.mono (N':=42000) (by omega))⟩,(by omega),(by omega)⟩⟩
 ·skip
  have Ip:(pY==0)=false:=beq_eq_false_iff_ne.mpr wh
  have ado:(pY != 0)=true:=bne_iff_ne.mpr wh
  go_upto_if 16 with(fail)
  by_cases Ce:pY=1
  ·skip
   subst Ce
   go_upto_region 6 with(fail)
   refine Wj HW (fun _=>True) [8] 9 (trivial) (fun Cb HN hHeld=>?_)
   replace HW:=HN
   clear HN
   refine bR jl.tab6 jl.bits6 (fun HT_ HW_=>?_)
   refine pw 0 (some 18) rfl rfl ?_
   refine tk 1 (some 19) (bm 9 3) rfl rfl hHeld ?_ (hy:=jQ _ 0 22 (.string uQ) Tryz.underlying9)
   refine pw 2 (some 20) rfl rfl ?_
   refine fV (i:=3) (N:=some 21) (bm 9 15) rfl rfl (bL HT_.out (by kernel_rfl)) (by decide) (fun K hK=>?_)
   refine gs Tryz.func22 #[(.pointer (some ⟨g,0,none⟩)),(.int .i64 5)] ?_
   with_reducible refine(gK 5 hR (HW.out.under hR hB0 jr.out) (HW.out.at 2 rfl) mK mM (by omega) (by omega)).mono ?_
   rintro e Dh ⟨X4,ahi,ahj,rfl,aj2,aj3,dK⟩
   refine⟨_,rfl,?_⟩
   have KP:=dK.rv
   have KQ:=dK.x0
   have aa3:=dK.x1
   replace HW:=ah.mk (HW.out.rd 2 dK rfl)
   (try simp only[List.set_cons_zero,List.set_cons_succ]at HW)
   clear dK
   have aJY:=eq_true aj2
   have aJZ:=eq_true aj3
   refine hK.out _ _ ⟨HW.out.bxs.dl,trivial⟩ (fun hHeld=>?_)
   clear hK K
   refine nm ?_
   refine pw 4 (some 22) rfl rfl ?_
   have hw_:ah (wrap64 (3+X4)=3+X4):=⟨dP _ (by omega) (by omega)⟩
   refine fV (i:=5) (N:=some 23) (bm 9 63) rfl rfl (bL HT_.out (by kernel_rfl)) (by decide) (fun K hK=>?_)
   refine gs Tryz.func47 #[(.string (⟨#[120]⟩:ByteArray)),(.int .i64 (wrap64 (3+X4)))] ?_
   with_reducible refine(Wi (⟨#[120]⟩:ByteArray) (wrap64 (3+X4)) (by decide) (by have h_:=hw_.out;omega) (by have h_:=hw_.out;omega)).mono ?_
   rintro e yO ⟨a3i,rfl,aAX,hb⟩
   refine⟨_,rfl,?_⟩
   replace HW:=ah.mk (HW.out.quiet hb)
   clear hb
   refine hK.out _ _ ⟨HW.out.bxs.dl,trivial⟩ (fun hHeld=>?_)
   clear hK K
   refine nm ?_
   have aK0:=hw_.out
   clear hw_
   have Sy:(9223372036854775807<uQ.size+a3i.size)=False:=eq_false (by omega)
   have Yi:(uQ++a3i).size≤900:=by rw[bf];omega
   clear aK0
   refine pw 6 (some 24) rfl rfl ?_
   refine pw 7 (some 25) rfl rfl ?_
   refine kJ (i:=8) (N:=none) (bm 9 511) rfl rfl (bL HT_.out (by kernel_rfl)) (by decide) (fun K hK=>?_)
   refine gF (by rfl) ?_
   refine oQ HW 0 22 (.string (uQ++a3i)) (wC _ _ _ _ _ _ _ _ _ _ _ _ _ _ _ _ _ _ _ _ _ _ _ _) ([_]) ?_ (fP rfl)
   clear HW
   intro yL HW
   (try simp only[List.set_cons_zero,List.set_cons_succ]at HW)
   refine hK.out _ _ ?_
   clear hK K
   refine fw (dM HT_.out (by kernel_rfl)) ?_
   clear HT_ HW_
   go_wp2_with (first|((with_reducible refine gd 46 rfl ?_);refine CU HW 0 0 ?_)|((with_reducible refine aj (t:=47) (p:=2) rfl ?_);refine iA HW 1 ?_;clear HW;intro yM HW;(try simp only[List.set_cons_zero,List.set_cons_succ]at HW)))
   refine bodyPost_ret (results_cell_row rfl _ _ g2 47 (wC _ _ _ _ _ _ _ _ _ _ _ _ _ _ _ _ _ _ _ _ _ _ _ _).toArray (0,0) _ rfl (HW.out.at 1 rfl) Tryz.underlying47 rfl (by kernel_rfl)) rfl ?_
   exact⟨_,_,_,_,rfl,⟨HW.out.ts,HW.out.at 2 rfl,KP,KQ,by omega⟩,⟨_,_,_,_,_,_,_,_,_,_,_,_,_,_,_,_,_,_,_,_,_,_,_,_,rfl,⟨(qU HW.out.g.1.2.t1),(qU HW.out.g.1.2.t3),HW.out.g.1.2.c5,(HW.out.g.1.2.s6.mono (N':=42000) (by omega)),(HW.out.g.1.2.s9.mono (N':=42000) (by omega))⟩,⟨(qU HW.out.g.2.t1),(qU HW.out.g.2.t3),HW.out.g.2.c5,(HW.out.g.2.s6.mono (N':=42000) (by omega)),(HW.out.g.2.s9.mono (N':=42000) (by omega))⟩,Yi,(by omega)⟩⟩
  ·skip
   have PG:(pY==1)=false:=beq_eq_false_iff_ne.mpr Ce
   have apk:(pY != 1)=true:=bne_iff_ne.mpr Ce
   go_upto_if 26 with(fail)
   by_cases c119:pY=2
   ·skip
    subst c119
    go_wp2_with (first|((with_reducible refine gq 48 rfl ?_);refine gl (some 29) Tryz.func48 #[(.pointer (some ⟨g,0,none⟩))] ?_;with_reducible refine(RN (HW.out.hb hb0) hR (HW.out.under hR hB0 jr.out) (HW.out.at 2 rfl) mK mM (by omega)).mono ?_;rintro e yN ⟨At_120,aj4,aj5,aK1,aK2,aK3,rfl,gQ,dK⟩;refine⟨_,rfl,?_⟩;have aaQ:=dK.rv;have aaR:=dK.x0;have aAY:=dK.x1;replace HW:=ah.mk (HW.out.rd 2 dK rfl);(try simp only[List.set_cons_zero,List.set_cons_succ]at HW);clear dK;replace HW:=ah.mk (LW.fact (H:=TDF b (.slice At_120 aj4 aj5)) HW.out gQ (Mon.td _));clear gQ)|((with_reducible refine aj (t:=25) (p:=31) rfl ?_);refine mP HW 0 14 (.agg (tC _ _).toArray) (wC _ _ _ _ _ _ _ _ _ _ _ _ _ _ _ _ _ _ _ _ _ _ _ _) (tC _ _) ?_ (fP rfl);clear HW;intro AR HW;(try simp only[List.set_cons_zero,List.set_cons_succ]at HW))|((with_reducible refine gd 46 rfl ?_);refine CU HW 0 0 ?_)|((with_reducible refine aj (t:=47) (p:=2) rfl ?_);refine iA HW 1 ?_;clear HW;intro Gu HW;(try simp only[List.set_cons_zero,List.set_cons_succ]at HW)))
    refine bodyPost_ret (results_cell_row rfl _ _ g2 47 (wC _ _ _ _ _ _ _ _ _ _ _ _ _ _ _ _ _ _ _ _ _ _ _ _).toArray (0,0) _ rfl (HW.out.at 1 rfl) Tryz.underlying47 rfl (by kernel_rfl)) rfl ?_
    exact⟨_,_,_,_,rfl,⟨HW.out.ts,HW.out.at 2 rfl,aaQ,aaR,by omega⟩,⟨_,_,_,_,_,_,_,_,_,_,_,_,_,_,_,_,_,_,_,_,_,_,_,_,rfl,⟨(qU HW.out.g.1.1.2.t1),(qU HW.out.g.1.1.2.t3),HW.out.g.1.1.2.c5,(HW.out.g.1.1.2.s6.mono (N':=42000) (by omega)),(HW.out.g.1.1.2.s9.mono (N':=42000) (by omega))⟩,⟨(qU HW.out.g.1.2.t1),HW.out.g.2,HW.out.g.1.2.c5,(HW.out.g.1.2.s6.mono (N':=42000) (by omega)),(HW.out.g.1.2.s9.mono (N':=42000) (by omega))⟩,(by omega),(by omega)⟩⟩
   ·skip
    have WG:(pY==2)=false:=beq_eq_false_iff_ne.mpr c119
    have aOO:(pY != 2)=true:=bne_iff_ne.mpr c119
    go_upto_if 32 with(fail)
    by_cases c124:pY=3
    ·skip
     subst c124
     go_upto_if 38 with(first|((with_reducible refine gd 36 rfl ?_);refine lls HW 0 6 (.slice Cj uP yR) Tryz.underlying26 ?_))
     by_cases a2r:(uP:Int)>0
     ·skip
      have aqw:=decide_eq_true a2r
      go_upto_region 11 with(fail)
      have X5:=(show(0:Int)≤0∧0<(uP:Int)from⟨by omega,by omega⟩)
      obtain⟨aK4,aqx,_,_⟩:=SL.has (HW.out.g.1.2.s6) (by omega)
      subst aqx
      have Yt:=eq_true X5.1
      have Yu:=eq_true X5.2
      refine Wj HW (fun _=>True) [7] 8 (trivial) (fun PE HN hHeld=>?_)
      replace HW:=HN
      clear HN
      refine bR jl.tab11 jl.bits11 (fun HT_ HW_=>?_)
      refine pw 0 (some 39) rfl rfl ?_
      refine pw 1 (some 40) rfl rfl ?_
      refine tk 2 (some 41) (bm 8 7) rfl rfl hHeld ?_ (hy:=jQ _ 0 6 (.slice (some ⟨aK4,0,none⟩) uP yR) Tryz.underlying26)
      refine pw 3 (some 42) rfl rfl ?_
      refine fV (i:=4) (N:=some 43) (bm 8 31) rfl rfl (bL HT_.out (by kernel_rfl)) (by decide) (fun K hK=>?_)
      refine gs Tryz.func22 #[(.pointer (some ⟨g,0,none⟩)),(.int .i64 9)] ?_
      with_reducible refine(gK 9 hR (HW.out.under hR hB0 jr.out) (HW.out.at 2 rfl) mK mM (by omega) (by omega)).mono ?_
      rintro e Sd ⟨aOP,aK5,aK6,rfl,aj6,aj7,dK⟩
      refine⟨_,rfl,?_⟩
      have aaS:=dK.rv
      have aaT:=dK.x0
      have aAZ:=dK.x1
      replace HW:=ah.mk (HW.out.rd 2 dK rfl)
      (try simp only[List.set_cons_zero,List.set_cons_succ]at HW)
      clear dK
      have aK7:=eq_true aj6
      have aK8:=eq_true aj7
      refine hK.out _ _ ⟨HW.out.bxs.dl,trivial⟩ (fun hHeld=>?_)
      clear hK K
      refine nm ?_
      refine pw 5 (some 44) rfl rfl ?_
      refine pw 6 (some 45) rfl rfl ?_
      refine kJ (i:=7) (N:=none) (bm 8 255) rfl rfl (bL HT_.out (by kernel_rfl)) (by decide) (fun K hK=>?_)
      refine gF (by rfl) ?_
      refine a2b HW (HW.out.g.1.2.s6) X5.1 X5.2 0 (by decide) ?_
      clear HW
      intro aar HW
      (try simp only[List.set_cons_zero,List.set_cons_succ]at HW)
      refine hK.out _ _ ?_
      clear hK K
      refine fw (dM HT_.out (by kernel_rfl)) ?_
      clear HT_ HW_
      go_wp2_with (first|((with_reducible refine gd 46 rfl ?_);refine CU HW 0 0 ?_)|((with_reducible refine aj (t:=47) (p:=2) rfl ?_);refine iA HW 1 ?_;clear HW;intro PO HW;(try simp only[List.set_cons_zero,List.set_cons_succ]at HW)))
      refine bodyPost_ret (results_cell_row rfl _ _ g2 47 (wC _ _ _ _ _ _ _ _ _ _ _ _ _ _ _ _ _ _ _ _ _ _ _ _).toArray (0,0) _ rfl (HW.out.at 1 rfl) Tryz.underlying47 rfl (by kernel_rfl)) rfl ?_
      exact⟨_,_,_,_,rfl,⟨HW.out.ts,HW.out.at 2 rfl,aaS,aaT,by omega⟩,⟨_,_,_,_,_,_,_,_,_,_,_,_,_,_,_,_,_,_,_,_,_,_,_,_,rfl,⟨(qU HW.out.g.1.2.t1),(qU HW.out.g.1.2.t3),HW.out.g.1.2.c5,(HW.out.g.1.2.s6.mono (N':=42000) (by omega)),(HW.out.g.1.2.s9.mono (N':=42000) (by omega))⟩,⟨(qU HW.out.g.2.t1),(qU HW.out.g.2.t3),HW.out.g.2.c5,(HW.out.g.2.s6.mono (N':=42000) (by omega)),(HW.out.g.2.s9.mono (N':=42000) (by omega))⟩,(by omega),(by omega)⟩⟩
     ·skip
      have aqw:=decide_eq_false a2r
      go_wp2_with (first|((with_reducible refine gd 46 rfl ?_);refine CU HW 0 0 ?_)|((with_reducible refine aj (t:=47) (p:=2) rfl ?_);refine iA HW 1 ?_;clear HW;intro aal HW;(try simp only[List.set_cons_zero,List.set_cons_succ]at HW)))
      refine bodyPost_ret (results_cell_row rfl _ _ g2 47 (wC _ _ _ _ _ _ _ _ _ _ _ _ _ _ _ _ _ _ _ _ _ _ _ _).toArray (0,0) _ rfl (HW.out.at 1 rfl) Tryz.underlying47 rfl (by kernel_rfl)) rfl ?_
      exact⟨_,_,_,_,rfl,⟨HW.out.ts,HW.out.at 2 rfl,mK,mM,by omega⟩,⟨_,_,_,_,_,_,_,_,_,_,_,_,_,_,_,_,_,_,_,_,_,_,_,_,rfl,⟨(qU HW.out.g.1.2.t1),(qU HW.out.g.1.2.t3),HW.out.g.1.2.c5,(HW.out.g.1.2.s6.mono (N':=42000) (by omega)),(HW.out.g.1.2.s9.mono (N':=42000) (by omega))⟩,⟨(qU HW.out.g.2.t1),(qU HW.out.g.2.t3),HW.out.g.2.c5,(HW.out.g.2.s6.mono (N':=42000) (by omega)),(HW.out.g.2.s9.mono (N':=42000) (by omega))⟩,(by omega),(by omega)⟩⟩
    ·skip
     have a3b:(pY==3)=false:=beq_eq_false_iff_ne.mpr c124
     have aqv:(pY != 3)=true:=bne_iff_ne.mpr c124
     go_wp2_with (first|((with_reducible refine gd 46 rfl ?_);refine CU HW 0 0 ?_)|((with_reducible refine aj (t:=47) (p:=2) rfl ?_);refine iA HW 1 ?_;clear HW;intro a2y HW;(try simp only[List.set_cons_zero,List.set_cons_succ]at HW)))
     refine bodyPost_ret (results_cell_row rfl _ _ g2 47 (wC _ _ _ _ _ _ _ _ _ _ _ _ _ _ _ _ _ _ _ _ _ _ _ _).toArray (0,0) _ rfl (HW.out.at 1 rfl) Tryz.underlying47 rfl (by kernel_rfl)) rfl ?_
     exact⟨_,_,_,_,rfl,⟨HW.out.ts,HW.out.at 2 rfl,mK,mM,by omega⟩,⟨_,_,_,_,_,_,_,_,_,_,_,_,_,_,_,_,_,_,_,_,_,_,_,_,rfl,⟨(qU HW.out.g.1.2.t1),(qU HW.out.g.1.2.t3),HW.out.g.1.2.c5,(HW.out.g.1.2.s6.mono (N':=42000) (by omega)),(HW.out.g.1.2.s9.mono (N':=42000) (by omega))⟩,⟨(qU HW.out.g.2.t1),(qU HW.out.g.2.t3),HW.out.g.2.c5,(HW.out.g.2.s6.mono (N':=42000) (by omega)),(HW.out.g.2.s9.mono (N':=42000) (by omega))⟩,(by omega),(by omega)⟩⟩
theorem Yk{b g:Nat}{l:List Int}{wr w:World}{M:Nat→Nat→Prop}{v:Value}{x:Int}(hw:TW b M w)(hb0:b≤w.heap.size)(hR:RB b wr g l)(hB0:Below wr.heap.size wr w)(hg:w.heap[g]?=some (.cells (rC v x).toArray 75 (0,0)))(hn:∀n,¬M g n)(hv:RV wr l v)(h0:0≤x)(h1:x≤600000):Calls Tryz.prog 33 #[.pointer (some ⟨g,0,none⟩)] w (a2l b wr g l (x+7100) M w 42000):=by
 have jr:=ah.mk hw
 have HW:ah (LW b (RX g) M w [⟨g,rC v x,75⟩] (fun _ _=>True) M w):=⟨LW.startR hw hg hn trivial (Mon.top _)⟩
 clear hw hg
 go_enter Tryz.func33,Tryz.ntmps33
 go_upto_if 9 with(first|((with_reducible refine gd 2 rfl ?_);refine lbx (N:=2) (t:=31) HW zE ?_;clear HW;intro g2 pF HW)|((with_reducible refine gq 21 rfl ?_);refine gl (some 6) Tryz.func21 #[(.pointer (some ⟨g,0,none⟩))] ?_;with_reducible refine(Qa HW.out.ts.tw (HW.out.hb hb0) hR (HW.out.under hR hB0 jr.out) (HW.out.at 1 rfl) (HW.out.noM 1 rfl) hv h0 (by omega)).mono ?_;rintro e AX h_;obtain⟨E_,M_102,aiY,aiZ,rfl,dK,hE_⟩:=h_.out;refine⟨_,rfl,?_⟩;obtain⟨FN,v1_,FU,v3_,FY,FZ,v6_,G5,G6,v9_,Ba,Li,u1_,Lr,u3_,Lx,LA,u6_,LF,LG,u9_,Ee,uQ,Gb,rfl,hF_,hG_,WS,WT⟩:=hE_.out;clear hE_;obtain⟨FO,FP,FQ,FV,FW,FX,Cj,uP,yR,G7,G8,G9,rfl,rfl,rfl,rfl,KX,KY⟩:=hF_.form4;obtain⟨Lj,Ll,Lp,Ls,Lu,Lv,LB,LC,LD,LH,LJ,LK,rfl,rfl,rfl,rfl,WU,WX⟩:=hG_.form4;have LQ:=dK.rv;have LU:=dK.x0;have aaP:=dK.x1;replace HW:=ah.mk (HW.out.rt 1 dK rfl);(try simp only[List.set_cons_zero,List.set_cons_succ]at HW);clear dK;replace HW:=ah.mk ((HW.out.ed hF_).ed hG_);clear hF_ hG_)|((with_reducible refine gd 4 rfl ?_);refine lbx (N:=4) (t:=47) HW zW ?_;clear HW;intro g4 Ca HW)|((with_reducible refine aj (t:=47) (p:=4) rfl ?_);refine iA HW 0 ?_;clear HW;intro xH HW;(try simp only[List.set_cons_zero,List.set_cons_succ]at HW))|((with_reducible refine gq 22 rfl ?_);refine gl (some 8) Tryz.func22 #[(.pointer (some ⟨g,0,none⟩)),(.int .i64 2)] ?_;with_reducible refine(gK 2 hR (HW.out.under hR hB0 jr.out) (HW.out.at 2 rfl) LQ LU (by omega) (by omega)).mono ?_;rintro e vZ ⟨pY,Sb,Sc,rfl,Te,Tf,dK⟩;refine⟨_,rfl,?_⟩;have mK:=dK.rv;have mM:=dK.x0;have KL:=dK.x1;replace HW:=ah.mk (HW.out.rd 2 dK rfl);(try simp only[List.set_cons_zero,List.set_cons_succ]at HW);clear dK;have aj0:=eq_true Te;have aj1:=eq_true Tf))
 by_cases wh:pY=0
 ·skip
  subst wh
  go_upto_region 3 with(fail)
  refine Wl HW [⟨g4,wC FN (.slice FO FP FQ) FU (.slice FV FW FX) FY FZ (.slice Cj uP yR) G5 G6 (.slice G7 G8 G9) Ba Li (.slice Lj Ll Lp) Lr (.slice Ls Lu Lv) Lx LA (.slice LB LC LD) LF LG (.slice LH LJ LK) Ee uQ Gb,47⟩] (fun _ h=>(BX.cons (h.at 0 rfl) (BX.nil _))) (fun _=>True) [] 6 (trivial) (fun AQ HN hHeld=>?_)
  replace HW:=HN
  clear HN
  refine pw 0 (some 10) rfl rfl ?_
  refine tk 1 (some 11) (bm 6 3) rfl rfl hHeld ?_ (hy:=yld _ 0 0 (eC _ _ _ _ _ _ _ _ _ _ _) Tryz.underlying31)
  refine pw 2 (some 12) rfl rfl ?_
  refine tk 3 (some 13) (bm 6 15) rfl rfl hHeld ?_ (hy:=jQ _ 0 23 (.string Gb) Tryz.underlying9)
  refine fV (i:=4) (N:=none) (bm 6 31) rfl rfl (by kernel_rfl) (by decide) (fun K hK=>?_)
  refine gF (by rfl) ?_
  refine oQ HW 1 0 (.agg (eC _ _ _ _ _ _ _ _ _ _ _).toArray) (eC _ _ _ _ _ _ _ _ _ _ _) (eC _ _ _ _ _ _ _ _ _ _ _) ?_ (fP rfl)
  clear HW
  intro Fz HW
  (try simp only[List.set_cons_zero,List.set_cons_succ]at HW)
  refine hK.out _ _ ⟨(BX.cons (HW.out.at 0 rfl) (BX.nil _)),trivial⟩ (fun hHeld=>?_)
  clear hK K
  refine pw 5 (some 3) rfl rfl ?_
  refine fw (by kernel_rfl) ?_
  go_wp2_with (fail)
  refine bodyPost_ret (fu rfl _ _ g2 31 (eC _ _ _ _ _ _ _ _ _ _ _).toArray (0,0) _ rfl (HW.out.at 1 rfl) Tryz.underlying31 rfl (by kernel_rfl)) rfl ?_
  exact⟨_,_,_,_,_,rfl,⟨HW.out.ts,HW.out.at 2 rfl,mK,mM,by omega⟩,⟨_,_,_,_,_,_,_,_,_,_,_,rfl,⟨HW.out.g.1.2.t1,HW.out.g.1.2.t3,HW.out.g.1.2.c5,(HW.out.g.1.2.s6.mono (N':=42000) (by omega)),(HW.out.g.1.2.s9.mono (N':=42000) (by omega))⟩⟩,by omega⟩
 ·skip
  have Ip:(pY==0)=false:=beq_eq_false_iff_ne.mpr wh
  have ado:(pY != 0)=true:=bne_iff_ne.mpr wh
  go_upto_region 4 with(fail)
  refine Wl HW [⟨g4,wC FN (.slice FO FP FQ) FU (.slice FV FW FX) FY FZ (.slice Cj uP yR) G5 G6 (.slice G7 G8 G9) Ba Li (.slice Lj Ll Lp) Lr (.slice Ls Lu Lv) Lx LA (.slice LB LC LD) LF LG (.slice LH LJ LK) Ee uQ Gb,47⟩] (fun _ h=>(BX.cons (h.at 0 rfl) (BX.nil _))) (fun _=>True) [] 6 (trivial) (fun FB HN hHeld=>?_)
  replace HW:=HN
  clear HN
  refine pw 0 (some 14) rfl rfl ?_
  refine tk 1 (some 15) (bm 6 3) rfl rfl hHeld ?_ (hy:=yld _ 0 11 (eC _ _ _ _ _ _ _ _ _ _ _) Tryz.underlying31)
  refine pw 2 (some 16) rfl rfl ?_
  refine tk 3 (some 17) (bm 6 15) rfl rfl hHeld ?_ (hy:=jQ _ 0 22 (.string uQ) Tryz.underlying9)
  refine fV (i:=4) (N:=none) (bm 6 31) rfl rfl (by kernel_rfl) (by decide) (fun K hK=>?_)
  refine gF (by rfl) ?_
  refine oQ HW 1 0 (.agg (eC _ _ _ _ _ _ _ _ _ _ _).toArray) (eC _ _ _ _ _ _ _ _ _ _ _) (eC _ _ _ _ _ _ _ _ _ _ _) ?_ (fP rfl)
  clear HW
  intro Cb HW
  (try simp only[List.set_cons_zero,List.set_cons_succ]at HW)
  refine hK.out _ _ ⟨(BX.cons (HW.out.at 0 rfl) (BX.nil _)),trivial⟩ (fun hHeld=>?_)
  clear hK K
  refine pw 5 (some 3) rfl rfl ?_
  refine fw (by kernel_rfl) ?_
  go_wp2_with (fail)
  refine bodyPost_ret (fu rfl _ _ g2 31 (eC _ _ _ _ _ _ _ _ _ _ _).toArray (0,0) _ rfl (HW.out.at 1 rfl) Tryz.underlying31 rfl (by kernel_rfl)) rfl ?_
  exact⟨_,_,_,_,_,rfl,⟨HW.out.ts,HW.out.at 2 rfl,mK,mM,by omega⟩,⟨_,_,_,_,_,_,_,_,_,_,_,rfl,⟨HW.out.g.2.t1,HW.out.g.2.t3,HW.out.g.2.c5,(HW.out.g.2.s6.mono (N':=42000) (by omega)),(HW.out.g.2.s9.mono (N':=42000) (by omega))⟩⟩,by omega⟩
def nJ.T7:Bool×List (List Nat×List Nat):=(true,[([],[]),([0],[0]),([],[]),([2],[2]),([3],[3]),([1,4,3],[1,4]),([0,1,2,3,4,5],[]),([6,5,5,0,1,2,3,4,5],[5,6])])
def nJ.B7:List Nat:=[0,1,0,4,12,31,63,127]
theorem nJ.tab7:jm .any (opsOf Tryz.f13 7)=nJ.T7:=by kernel_rfl
theorem nJ.bits7:fQ nJ.T7.2 nJ.B7=true:=by kernel_rfl
theorem LV{b:Nat}{w:World}{A:Option Addr}{c:Nat}{l:List Int}(hl:Bytes l)(hbe:b=w.heap.size)(hr:Kd.C (Kd.int .u8) w A l.length l)(hc:l.length≤c):Calls Tryz.prog 13 #[.slice A l.length c] w (RO w 42001):=by
 have hb0:b≤w.heap.size:=by omega
 have hw:TW b vv w:=.none _ _
 have jr:=ah.mk hw
 have hB0:=Below.refl w.heap.size w
 have HW:ah (LW b NX vv w [] (fun _ _=>True) vv w):=⟨LW.start hw trivial (Mon.top _)⟩
 clear hw
 go_enter Tryz.func13,Tryz.ntmps13
 go_upto_if 15 with(first|((with_reducible refine gd 2 rfl ?_);refine lbx (N:=2) (t:=31) HW zE ?_;clear HW;intro g2 pF HW)|((with_reducible refine gq 20 rfl ?_);refine gl (some 7) Tryz.func20 #[(.slice A l.length c)] ?_;with_reducible refine(a9t hl (HW.out.underN hbe hB0 jr.out) hr hc).mono ?_;rintro e AX ⟨g,vk,lr,rfl,nE,hv0,aaD,aqy,aqz,hb⟩;refine⟨_,rfl,?_⟩;have hR:RB b w g lr:=⟨hbe,by omega,aqy,aqz⟩;have HN:=ah.mk (HW.out.pushR hb nE (by intro x hx;simp only[List.mem_cons,List.not_mem_nil,or_false]at hx;rcases hx with rfl;exact(by decide:(31:Nat)≠75)) (fun _ h=>h) aaD);replace HW:=HN;clear HN hb nE aaD aqy aqz)|((with_reducible refine gq 33 rfl ?_);refine gl (some 10) Tryz.func33 #[(.pointer (some ⟨g,0,none⟩))] ?_;with_reducible refine(Yk HW.out.ts.tw (HW.out.hb hb0) hR (HW.out.underN hbe hB0 jr.out) (HW.out.at 0 rfl) (HW.out.noM 0 rfl) hv0 (by decide) (by omega)).mono ?_;rintro e xH h_;obtain⟨E_,aK9,M_104,aKa,aKb,rfl,dK,hE_,aKc⟩:=h_.out;refine⟨_,rfl,?_⟩;obtain⟨SC,v1_,SF,v3_,SG,SH,v6_,SQ,SS,v9_,Le,rfl,hF_⟩:=hE_.out;clear hE_;obtain⟨KZ,L6,L8,L9,La,Lb,SI,SK,SN,Lc,Ga,Ld,rfl,rfl,rfl,rfl,WO,WQ⟩:=hF_.form4;have aqb:=hF_.c5;have aaU:=dK.rv;have aaV:=dK.x0;have aB0:=dK.x1;replace HW:=ah.mk (HW.out.rt 0 dK rfl);(try simp only[List.set_cons_zero,List.set_cons_succ]at HW);clear dK;replace HW:=ah.mk (HW.out.ed hF_);clear hF_)|((with_reducible refine gd 4 rfl ?_);refine lbx (N:=4) (t:=31) HW zE ?_;clear HW;intro g4 PK HW)|((with_reducible refine aj (t:=31) (p:=4) rfl ?_);refine iA HW 0 ?_;clear HW;intro vZ HW;(try simp only[List.set_cons_zero,List.set_cons_succ]at HW))|((with_reducible refine gq 22 rfl ?_);refine gl (some 14) Tryz.func22 #[(.pointer (some ⟨g,0,none⟩)),(.int .i64 12)] ?_;with_reducible refine(gK 12 hR (HW.out.underN hbe hB0 jr.out) (HW.out.at 1 rfl) aaU aaV (by omega) (by omega)).mono ?_;rintro e AQ ⟨IA,agG,agH,rfl,aj8,aj9,dK⟩;refine⟨_,rfl,?_⟩;have KM:=dK.rv;have KN:=dK.x0;have a9B:=dK.x1;replace HW:=ah.mk (HW.out.rd 1 dK rfl);(try simp only[List.set_cons_zero,List.set_cons_succ]at HW);clear dK;have aKd:=eq_true aj8;have aKe:=eq_true aj9))
 by_cases yQ:IA=0
 ·skip
  subst yQ
  go_wp2_with (first|((with_reducible refine aj (t:=3) (p:=18) rfl ?_);refine mP HW 0 7 (.int .i64 (-1)) (eC _ _ _ _ _ _ _ _ _ _ _) ([_]) ?_ (fP rfl);clear HW;intro FB HW;(try simp only[List.set_cons_zero,List.set_cons_succ]at HW))|((with_reducible refine gd 28 rfl ?_);refine lE HW 0 0 ?_)|((with_reducible refine aj (t:=31) (p:=2) rfl ?_);refine iA HW 2 ?_;clear HW;intro Cb HW;(try simp only[List.set_cons_zero,List.set_cons_succ]at HW)))
  refine bodyPost_ret (results_cell_row rfl _ _ g2 31 (eC _ _ _ _ _ _ _ _ _ _ _).toArray (0,0) _ rfl (HW.out.at 2 rfl) Tryz.underlying31 rfl (by kernel_rfl)) rfl ?_
  subst hbe
  exact⟨_,_,_,_,_,_,_,_,_,_,_,rfl,ED.dr (M:=_) ⟨HW.out.g.2.t1,HW.out.g.2.t3,HW.out.g.2.c5,(HW.out.g.2.s6.mono (N':=42001) (by omega)),(HW.out.g.2.s9.mono (N':=42001) (by omega))⟩ HW.out.ts.tw,HW.out.underN rfl hB0 jr.out⟩
 ·skip
  have CW:(IA==0)=false:=beq_eq_false_iff_ne.mpr yQ
  have aOU:(IA != 0)=true:=bne_iff_ne.mpr yQ
  go_upto_if 19 with(fail)
  by_cases xM:IA=1
  ·skip
   subst xM
   go_upto_region 7 with(fail)
   refine Wl HW [⟨g4,eC SC (.slice KZ L6 L8) SF (.slice L9 La Lb) SG SH (.slice SI SK SN) SQ SS (.slice Lc Ga Ld) Le,31⟩] (fun _ h=>(BX.cons (h.at 0 rfl) (BX.nil _))) (fun _=>True) [5,7] 8 (trivial) (fun Dh HN hHeld=>?_)
   replace HW:=HN
   clear HN
   refine bR nJ.tab7 nJ.bits7 (fun HT_ HW_=>?_)
   refine pw 0 (some 21) rfl rfl ?_
   refine tk 1 (some 22) (bm 8 3) rfl rfl hHeld ?_ (hy:=jQ _ 0 9 (.slice Lc Ga Ld) Tryz.underlying29)
   refine pw 2 (some 23) rfl rfl ?_
   refine fV (i:=3) (N:=some 24) (bm 8 15) rfl rfl (bL HT_.out (by kernel_rfl)) (by decide) (fun K hK=>?_)
   refine gs Tryz.func34 #[(.pointer (some ⟨g,0,none⟩))] ?_
   with_reducible refine(Sj hR (HW.out.underN hbe hB0 jr.out) (HW.out.at 1 rfl) KM KN (by omega)).mono ?_
   rintro e yO ⟨aja,ajb,ajc,ajd,aKf,aKg,rfl,aaW,dK⟩
   refine⟨_,rfl,?_⟩
   have aB1:=dK.rv
   have aB2:=dK.x0
   have aB3:=dK.x1
   replace HW:=ah.mk (HW.out.rd 1 dK rfl)
   (try simp only[List.set_cons_zero,List.set_cons_succ]at HW)
   clear dK
   refine hK.out _ _ ⟨(BX.cons (HW.out.at 0 rfl) (BX.nil _)),trivial⟩ (fun hHeld=>?_)
   clear hK K
   refine nm ?_
   refine fV (i:=4) (N:=some 25) (bm 8 31) rfl rfl (bL HT_.out (by kernel_rfl)) (by decide) (fun K hK=>?_)
   refine gF (by rfl) ?_
   refine KC (t:=42) (m:=1) HW (fC aja ajb ajc ajd) ?_
   clear HW
   intro g25 yL HW
   refine hK.out _ _ ⟨(BX.cons (HW.out.at 1 rfl) (BX.nil _)),trivial⟩ (fun hHeld=>?_)
   clear hK K
   refine nm ?_
   refine kJ (i:=5) (N:=some 26) (bm 8 63) rfl rfl (bL HT_.out (by kernel_rfl)) (by decide) (fun K hK=>?_)
   refine gF (by rfl) ?_
   refine a9w (N:=42000) (N6:=42000) (z:=.agg (fC 0 false 0 (⟨#[]⟩:ByteArray)).toArray) HW (HW.out.g.2.s9) (HW.out.g.2.s6) (fun M w=>TDF b (.slice KZ L6 L8) M w∧TDF b (.slice L9 La Lb) M w) ⟨HW.out.g.2.t1,HW.out.g.2.t3⟩ (Mon.and (Mon.td _) (Mon.td _)) _ _ _ _ (vX HW.out (i:=0) rfl) aaW (by decide) (by kernel_rfl) (by rfl) Tryz.underlying29 ?_
   intro aKh Q6 R_ H_ yM HN hRd_
   simp only[List.cons_append,List.nil_append]at HN
   replace HW:=HN
   clear HN
   refine hK.out _ _ ?_
   clear hK K
   refine nm ?_
   refine pw 6 (some 27) rfl rfl ?_
   refine kJ (i:=7) (N:=none) (bm 8 255) rfl rfl (bL HT_.out (by kernel_rfl)) (by decide) (fun K hK=>?_)
   refine gF (by rfl) ?_
   refine oQ HW 1 9 (.slice aKh (Ga+1) Q6) (eC _ _ _ _ _ _ _ _ _ _ _) ([_]) ?_ (fP rfl)
   clear HW
   intro xI HW
   (try simp only[List.set_cons_zero,List.set_cons_succ]at HW)
   refine hK.out _ _ ?_
   clear hK K
   refine fw (dM HT_.out (by kernel_rfl)) ?_
   clear HT_ HW_
   go_wp2_with (first|((with_reducible refine gd 28 rfl ?_);refine lE HW 1 0 ?_)|((with_reducible refine aj (t:=31) (p:=2) rfl ?_);refine iA HW 3 ?_;clear HW;intro Cc HW;(try simp only[List.set_cons_zero,List.set_cons_succ]at HW)))
   refine bodyPost_ret (results_cell_row rfl _ _ g2 31 (eC _ _ _ _ _ _ _ _ _ _ _).toArray (0,0) _ rfl (HW.out.at 3 rfl) Tryz.underlying31 rfl (by kernel_rfl)) rfl ?_
   subst hbe
   exact⟨_,_,_,_,_,_,_,_,_,_,_,rfl,⟨HW.out.g.1.1,HW.out.g.1.2,aqb,(hRd_ _ HW.out.drop.drop.drop.drop.bxs HW.out.g.2).1.mono (by decide),(hRd_ _ HW.out.drop.drop.drop.drop.bxs HW.out.g.2).2⟩,HW.out.underN rfl hB0 jr.out⟩
  ·skip
   have WI:(IA==1)=false:=beq_eq_false_iff_ne.mpr xM
   have adn:(IA != 1)=true:=bne_iff_ne.mpr xM
   go_wp2_with (first|((with_reducible refine gd 28 rfl ?_);refine lE HW 0 0 ?_)|((with_reducible refine aj (t:=31) (p:=2) rfl ?_);refine iA HW 2 ?_;clear HW;intro yN HW;(try simp only[List.set_cons_zero,List.set_cons_succ]at HW)))
   refine bodyPost_ret (results_cell_row rfl _ _ g2 31 (eC _ _ _ _ _ _ _ _ _ _ _).toArray (0,0) _ rfl (HW.out.at 2 rfl) Tryz.underlying31 rfl (by kernel_rfl)) rfl ?_
   subst hbe
   exact⟨_,_,_,_,_,_,_,_,_,_,_,rfl,ED.dr (M:=_) ⟨HW.out.g.2.t1,HW.out.g.2.t3,HW.out.g.2.c5,(HW.out.g.2.s6.mono (N':=42001) (by omega)),(HW.out.g.2.s9.mono (N':=42001) (by omega))⟩ HW.out.ts.tw,HW.out.underN rfl hB0 jr.out⟩
def FnEndLess.T13:Bool×List (List Nat×List Nat):=(true,[([],[]),([0],[0]),([],[]),([2],[2]),([1,3],[1,3]),([4],[4]),([5],[5]),([],[]),([7],[7]),([],[]),([9],[9]),([8,10],[8,10]),([6,11],[6,11]),([0,1,2,3,4,5,6,7,8,9,10,11,12],[]),([13,12,12,0,1,2,3,4,5,6,7,8,9,10,11,12],[12,13])])
def FnEndLess.B13:List Nat:=[0,1,0,4,15,31,63,0,128,0,512,1920,4095,8191,16383]
theorem FnEndLess.tab13:jm .any (opsOf Tryz.f4 13)=FnEndLess.T13:=by kernel_rfl
theorem FnEndLess.bits13:fQ FnEndLess.T13.2 FnEndLess.B13=true:=by kernel_rfl
theorem less_ct{w:World}{A:Option Addr}{c:Nat}{l:List Int}(hl:Bytes l)(hr:Kd.C (Kd.int .u8) w A l.length l)(hc:l.length≤c):Calls Tryz.prog 4 #[.slice A l.length c] w fun e w'=>e= .returned (.bool true)∧Below w.heap.size w w':=by
 go_enter Tryz.func4,Tryz.ntmps4
 go_upto_if 10 with(fail)
 by_cases aqA:(l.length:Int)>1048576
 ·skip
  have aqB:=decide_eq_true aqA
  go_wp2_with (fail)
  go_ret
  exact⟨rfl,Below.refl _ _⟩
 ·skip
  have aqB:=decide_eq_false aqA
  go_upto_region 5 with(first|((with_reducible refine gq 13 rfl ?_);refine gl (some 12) Tryz.func13 #[(.slice A l.length c)] ?_;with_reducible refine(LV hl rfl hr hc).mono ?_;rintro e w1 h_;obtain⟨x0,v1_,x2,v3_,x4,x5,v6_,x7,x8,v9_,x10,rfl,hD,hb1⟩:=h_.out;refine⟨_,rfl,?_⟩;obtain⟨l1,l3,l6,l9,hE,hS,h6,hN6⟩:=hD.rd (by decide);clear hD;obtain⟨A1,c1,e_,_⟩:=hE.r1;subst e_;obtain⟨A3,c3,e_,_⟩:=hE.r3;subst e_;obtain⟨A6,c6,e_,_⟩:=hE.r6;subst e_;obtain⟨A9,c9,e_,_⟩:=hE.r9;subst e_;obtain⟨eo,heo⟩:∃r,ah (xW x0 l1 x2 l3 x4 x5 l6 x7 x8 l9=r):=⟨_,⟨rfl⟩⟩;have HW:ah (LW w1.heap.size NX vv w1 [] (fun _ _=>True) vv w1):=⟨LW.start (.none _ _) trivial (Mon.top _)⟩)|((with_reducible refine gd 3 rfl ?_);refine lbx (N:=3) (t:=31) HW zE ?_;clear HW;intro g3 AX HW)|((with_reducible refine aj (t:=31) (p:=3) rfl ?_);refine iA HW 0 ?_;clear HW;intro Ca HW;(try simp only[List.set_cons_zero,List.set_cons_succ]at HW))|((with_reducible refine gd 13 rfl ?_);refine lE HW 0 0 ?_)|((with_reducible refine gq 14 rfl ?_);refine gl (some 14) Tryz.func14 #[(.agg (eC _ _ _ _ _ _ _ _ _ _ _).toArray)] ?_;with_reducible refine(wo (hE.below (HW.out.underN rfl (Below.refl _ _) (.none _ _))) hS heo.out).mono ?_;rintro e xH ⟨rfl,hb⟩;refine⟨_,rfl,?_⟩;replace HW:=ah.mk (HW.out.quiet hb);clear hb))
  cases eo with
  |true=>
   go_upto_if 28 with(first|((with_reducible refine gd 16 rfl ?_);refine lE HW 0 0 ?_)|((with_reducible refine gq 10 rfl ?_);refine gl (some 17) Tryz.func10 #[(.agg (eC _ _ _ _ _ _ _ _ _ _ _).toArray)] ?_;with_reducible refine(Bc (hE.below (HW.out.underN rfl (Below.refl _ _) (.none _ _))) hS heo.out).mono ?_;rintro e AU ⟨rfl,hb⟩;refine⟨_,rfl,?_⟩;replace HW:=ah.mk (HW.out.quiet hb);clear hb)|((with_reducible refine gd 25 rfl ?_);refine aM (by rfl) ?_;dsimp only;refine lls HW 0 6 (.slice A6 l6.length c6) Tryz.underlying26 ?_))
   by_cases c109:(l6.length:Int)=0
   ·skip
    have ada:((l6.length:Int)==0)=true:=beq_iff_eq.mpr c109
    have adb:((l6.length:Int) != 0)=false:=bne_eq_false_iff_eq.mpr c109
    have aOV:=ah.mk c109
    clear c109
    go_wp2_with (first|((with_reducible refine gd 30 rfl ?_);refine lE HW 0 0 ?_)|((with_reducible refine gq 10 rfl ?_);refine gl (some 31) Tryz.func10 #[(.agg (eC _ _ _ _ _ _ _ _ _ _ _).toArray)] ?_;with_reducible refine(Bc (hE.below (HW.out.underN rfl (Below.refl _ _) (.none _ _))) hS heo.out).mono ?_;rintro e Fz ⟨rfl,hb⟩;refine⟨_,rfl,?_⟩;replace HW:=ah.mk (HW.out.quiet hb);clear hb))
    go_ret
    exact⟨rfl,aaH hb1 (HW.out.underN rfl (Below.refl _ _) (.none _ _))⟩
   ·skip
    have ada:((l6.length:Int)==0)=false:=beq_eq_false_iff_ne.mpr c109
    have adb:((l6.length:Int) != 0)=true:=bne_iff_ne.mpr c109
    go_upto_region 7 with(fail)
    obtain⟨k6,c6_,e6_⟩:=h6 (by omega)
    injection e6_ with e1_ yS e3_
    subst e1_ e3_
    have qj:ah (wrap64 ((l6.length:Int)-1)=(l6.length:Int)-1):=⟨dP _ (by omega) (by omega)⟩
    obtain⟨A_,c_,e_,aq3,C6,_⟩:=hE.r6
    injection e_ with e1_ yS e3_
    subst e1_ e3_
    clear yS
    have aSL:=eq_true (show(0:Int)≤(l6.length:Int)-1 by omega)
    have aSM:=eq_true (show(l6.length:Int)-1≤(c6:Int) by omega)
    go_upto_region 13 with(first|((with_reducible refine gd 34 rfl ?_);refine lls HW 0 6 (.slice (some ⟨k6,0,none⟩) l6.length c6) Tryz.underlying26 ?_)|((with_reducible refine gd 36 rfl ?_);refine lE HW 0 0 ?_)|((with_reducible refine gd 6 rfl ?_);refine lbx (N:=6) (t:=31) HW zE ?_;clear HW;intro g6 FB HW)|((with_reducible refine aj (t:=31) (p:=6) rfl ?_);refine iA HW 0 ?_;clear HW;intro Cb HW;(try simp only[List.set_cons_zero,List.set_cons_succ]at HW))|((with_reducible refine gd 38 rfl ?_);refine lls HW 1 6 (.slice (some ⟨k6,0,none⟩) l6.length c6) Tryz.underlying26 ?_)|((with_reducible refine aj (t:=26) (p:=42) rfl ?_);refine mP HW 0 6 (.slice (some ⟨k6,0,none⟩) (l6.length-1) c6) (eC _ _ _ _ _ _ _ _ _ _ _) ([_]) ?_ (fP rfl);clear HW;intro AV HW;(try simp only[List.set_cons_zero,List.set_cons_succ]at HW))|((with_reducible refine aj (t:=29) (p:=43) rfl ?_);refine mP HW 0 9 (.slice none 0 0) (eC _ _ _ _ _ _ _ _ _ _ _) ([_]) ?_ (fP rfl);clear HW;intro Dh HW;(try simp only[List.set_cons_zero,List.set_cons_succ]at HW))|((with_reducible refine aj (t:=9) (p:=44) rfl ?_);refine mP HW 0 5 (.string (⟨#[]⟩:ByteArray)) (eC _ _ _ _ _ _ _ _ _ _ _) ([_]) ?_ (fP rfl);clear HW;intro KO HW;(try simp only[List.set_cons_zero,List.set_cons_succ]at HW))|((with_reducible refine gd 45 rfl ?_);refine lE HW 1 0 ?_)|((with_reducible refine gd 7 rfl ?_);refine lbx (N:=7) (t:=31) HW zE ?_;clear HW;intro g7 yO HW)|((with_reducible refine aj (t:=31) (p:=7) rfl ?_);refine iA HW 0 ?_;clear HW;intro yL HW;(try simp only[List.set_cons_zero,List.set_cons_succ]at HW)))
    obtain⟨p_,hp_⟩:∃p,l6[(wrap64 ((l6.length:Int)-1)).toNat]?=some p:=⟨_,List.getElem?_eq_getElem (by have h_:=qj.out;omega)⟩
    obtain⟨ad_,ea_,dK⟩:=C6.2.2 (by omega)
    obtain rfl:=Option.some.inj ea_
    obtain⟨ce_,pJ,hK_,aKk⟩:=dK _ p_ hp_
    obtain⟨A2_,d2_,A7_,d7_,rfl,_,_,_,_⟩:=Ey hK_
    have aqC:w1.rangeAt k6 ((wrap64 ((l6.length:Int)-1)).toNat*12) (sC p_.f0 p_.f1 (.slice A2_ p_.f2.length d2_) p_.f3 p_.f4 p_.f5 p_.f6 (.slice A7_ p_.f7.length d7_) p_.f8 p_.f9 p_.f10.f0 p_.f10.f1):=fun q u hq=>by have h_:=aKk q u hq;rwa[Addr.add_mid,Nat.zero_add]at h_
    have Yt:=eq_true (show(0:Int)≤wrap64 ((l6.length:Int)-1) by have h_:=qj.out;omega)
    have Yu:=eq_true (show wrap64 ((l6.length:Int)-1)<(l6.length:Int) by have h_:=qj.out;omega)
    have qj_:=eq_true (show wrap64 ((l6.length:Int)-1)≤(c6:Int) by have h_:=qj.out;omega)
    refine Wl HW [⟨g3,eC x0 (.slice A1 l1.length c1) x2 (.slice A3 l3.length c3) x4 x5 (.slice (some ⟨k6,0,none⟩) l6.length c6) x7 x8 (.slice A9 l9.length c9) x10,31⟩] (fun _ h=>(BX.cons (h.at 2 rfl) (BX.nil _))) (fun W=>W.rangeAt k6 ((wrap64 ((l6.length:Int)-1)).toNat*12) (sC p_.f0 p_.f1 (.slice A2_ p_.f2.length d2_) p_.f3 p_.f4 p_.f5 p_.f6 (.slice A7_ p_.f7.length d7_) p_.f8 p_.f9 p_.f10.f0 p_.f10.f1)) [12,14] 15 ((eG aqC (HW.out.drew.underN rfl (Below.refl _ _) (.none _ _)))) (fun yM HN hHeld=>?_)
    replace HW:=HN
    clear HN
    refine bR FnEndLess.tab13 FnEndLess.bits13 (fun HT_ HW_=>?_)
    refine pw 0 (some 46) rfl rfl ?_
    refine tk 1 (some 47) (bm 15 3) rfl rfl hHeld ?_ (hy:=jQ _ 0 6 (.slice (some ⟨k6,0,none⟩) l6.length c6) Tryz.underlying26)
    refine pw 2 (some 48) rfl rfl ?_
    refine pw 3 (some 49) rfl rfl ?_
    refine pw 4 (some 50) rfl rfl ?_
    refine tk 5 (some 51) (bm 15 63) rfl rfl hHeld ?_ (hy:=yrw (sC p_.f0 p_.f1 (.slice A2_ p_.f2.length d2_) p_.f3 p_.f4 p_.f5 p_.f6 (.slice A7_ p_.f7.length d7_) p_.f8 p_.f9 p_.f10.f0 p_.f10.f1) (fun W h=>h) Tryz.underlying39)
    refine pw 7 (some 53) rfl rfl ?_
    refine tk 8 (some 54) (bm 15 447) rfl rfl hHeld ?_ (hy:=jQ _ 0 6 (.slice (some ⟨k6,0,none⟩) l6.length c6) Tryz.underlying26)
    refine pw 9 (some 55) rfl rfl ?_
    refine pw 10 (some 56) rfl rfl ?_
    refine pw 11 (some 57) rfl rfl ?_
    refine fV (i:=6) (N:=some 52) (bm 15 4095) rfl rfl (bL HT_.out (by kernel_rfl)) (by decide) (fun K hK=>?_)
    refine gF (by rfl) ?_
    refine KC (t:=39) (m:=1) HW (sC p_.f0 p_.f1 (.slice A2_ p_.f2.length d2_) p_.f3 p_.f4 p_.f5 p_.f6 (.slice A7_ p_.f7.length d7_) p_.f8 p_.f9 p_.f10.f0 p_.f10.f1) ?_
    clear HW
    intro g52 xI HW
    refine hK.out _ _ ⟨(BX.cons (HW.out.at 3 rfl) (BX.nil _)),(eG aqC (HW.out.underN rfl (Below.refl _ _) (.none _ _)))⟩ (fun hHeld=>?_)
    clear hK K
    refine nm ?_
    refine kJ (i:=12) (N:=some 58) (bm 15 8191) rfl rfl (bL HT_.out (by kernel_rfl)) (by decide) (fun K hK=>?_)
    refine gF (by rfl) ?_
    refine aiB (i:=0) (p:=p_) (m:=(wrap64 ((l6.length:Int)-1)).toNat) (z:=.agg (sC 0 0 (.slice none 0 0) (⟨#[]⟩:ByteArray) false false 0 (.slice none 0 0) (⟨#[]⟩:ByteArray) false 0 0).toArray) HW (HW.out.underN rfl (Below.refl _ _) (.none _ _)) C6 (by have h_:=qj.out;omega) (by omega) (by have h_:=qj.out;omega) hK_ rfl (by kernel_rfl) (by rfl) Tryz.underlying26 ?_
    intro aKl xJ R_ Cc HN hRd_
    simp only[List.cons_append,List.nil_append]at HN
    replace HW:=HN
    clear HN
    refine hK.out _ _ ?_
    clear hK K
    refine nm ?_
    refine pw 13 (some 59) rfl rfl ?_
    refine kJ (i:=14) (N:=none) (bm 15 32767) rfl rfl (bL HT_.out (by kernel_rfl)) (by decide) (fun K hK=>?_)
    refine gF (by rfl) ?_
    refine oQ HW 1 6 (.slice aKl (1+(wrap64 ((l6.length:Int)-1)).toNat) xJ) (eC _ _ _ _ _ _ _ _ _ _ _) ([_]) ?_ (fP rfl)
    clear HW
    intro yN HW
    (try simp only[List.set_cons_zero,List.set_cons_succ]at HW)
    refine hK.out _ _ ?_
    clear hK K
    refine fw (dM HT_.out (by kernel_rfl)) ?_
    clear HT_ HW_
    go_upto_region 14 with(fail)
    have aKm:p_∈l6:=List.mem_of_getElem? hp_
    have hSy_:=aaG hS (wrap64 ((l6.length:Int)-1)).toNat (by have h_:=qj.out;omega) aKm
    have X6:xW x0 l1 x2 l3 x4 x5 (p_::l6.take (wrap64 ((l6.length:Int)-1)).toNat) x7 x8 l9=decide ((l6.length:Int)=1):=by
     have h_:=qj.out
     have h2_:=agl x0 l1 x2 l3 x4 x5 l6 x7 x8 l9 (wrap64 ((l6.length:Int)-1)).toNat (by omega) heo.out
     rw[uI _ _ (by omega)]at h2_
     rw[List.getElem?_eq_getElem (by omega)]at hp_
     rw[Option.some.inj hp_]at h2_
     rw[h2_]
     congr 2
     omega
    by_cases cn_:(l6.length:Int)=1
    ·skip
     have aje:=ah.mk (X6.trans (decide_eq_true cn_))
     clear X6
     have cm_:=beq_iff_eq.mpr cn_
     clear cn_
     go_wp2_with (first|((with_reducible refine gd 60 rfl ?_);refine lE HW 2 0 ?_)|((with_reducible refine gq 14 rfl ?_);refine gl (some 61) Tryz.func14 #[(.agg (eC _ _ _ _ _ _ _ _ _ _ _).toArray)] ?_;with_reducible refine(wo ((hE.take (l6.length-1) (by have h_:=qj.out;omega)).below (HW.out.underN rfl (Below.refl _ _) (.none _ _))) (Q8 hS _) (a1Z _ _ _ _ _ _ _ _ _ _ _ (by have h_:=qj.out;omega) heo.out)).mono ?_;rintro e AR ⟨rfl,hb⟩;refine⟨_,rfl,?_⟩;replace HW:=ah.mk (HW.out.quiet hb);clear hb)|((with_reducible refine gd 63 rfl ?_);refine aM (by rfl) ?_;dsimp only;refine uN HW 1 0 (eC _ _ _ _ _ _ _ _ _ _ _) Tryz.underlying31 ?_)|(go_at_call 14;with_reducible refine(wo ⟨(hE.below (HW.out.underN rfl (Below.refl _ _) (.none _ _))).r1,(hE.below (HW.out.underN rfl (Below.refl _ _) (.none _ _))).r3,hRd_ _ HW.out.drop.drop.drop.drop.bxs (HW.out.at 0 rfl) (HW.out.underN rfl (Below.refl _ _) (.none _ _)),(hE.below (HW.out.underN rfl (Below.refl _ _) (.none _ _))).r9⟩ hSy_ aje.out).mono ?_;rintro e Gu ⟨rfl,hb⟩;replace HW:=ah.mk (HW.out.quiet hb);clear hb))
     go_ret
     exact⟨rfl,aaH hb1 (HW.out.underN rfl (Below.refl _ _) (.none _ _))⟩
    ·skip
     have aje:=ah.mk (X6.trans (decide_eq_false cn_))
     clear X6
     have cm_:=beq_eq_false_iff_ne.mpr cn_
     clear cn_
     go_wp2_with (first|((with_reducible refine gd 60 rfl ?_);refine lE HW 2 0 ?_)|((with_reducible refine gq 14 rfl ?_);refine gl (some 61) Tryz.func14 #[(.agg (eC _ _ _ _ _ _ _ _ _ _ _).toArray)] ?_;with_reducible refine(wo ((hE.take (l6.length-1) (by have h_:=qj.out;omega)).below (HW.out.underN rfl (Below.refl _ _) (.none _ _))) (Q8 hS _) (a1Z _ _ _ _ _ _ _ _ _ _ _ (by have h_:=qj.out;omega) heo.out)).mono ?_;rintro e Fv ⟨rfl,hb⟩;refine⟨_,rfl,?_⟩;replace HW:=ah.mk (HW.out.quiet hb);clear hb)|((with_reducible refine gd 63 rfl ?_);refine aM (by rfl) ?_;dsimp only;refine uN HW 1 0 (eC _ _ _ _ _ _ _ _ _ _ _) Tryz.underlying31 ?_)|(go_at_call 14;with_reducible refine(wo ⟨(hE.below (HW.out.underN rfl (Below.refl _ _) (.none _ _))).r1,(hE.below (HW.out.underN rfl (Below.refl _ _) (.none _ _))).r3,hRd_ _ HW.out.drop.drop.drop.drop.bxs (HW.out.at 0 rfl) (HW.out.underN rfl (Below.refl _ _) (.none _ _)),(hE.below (HW.out.underN rfl (Below.refl _ _) (.none _ _))).r9⟩ hSy_ aje.out).mono ?_;rintro e KI ⟨rfl,hb⟩;replace HW:=ah.mk (HW.out.quiet hb);clear hb))
     go_ret
     exact⟨rfl,aaH hb1 (HW.out.underN rfl (Below.refl _ _) (.none _ _))⟩
  |false=>
   go_wp2_with (first|((with_reducible refine gd 16 rfl ?_);refine lE HW 0 0 ?_)|((with_reducible refine gq 10 rfl ?_);refine gl (some 17) Tryz.func10 #[(.agg (eC _ _ _ _ _ _ _ _ _ _ _).toArray)] ?_;with_reducible refine(Bc (hE.below (HW.out.underN rfl (Below.refl _ _) (.none _ _))) hS heo.out).mono ?_;rintro e KJ ⟨rfl,hb⟩;refine⟨_,rfl,?_⟩;replace HW:=ah.mk (HW.out.quiet hb);clear hb)|((with_reducible refine gd 30 rfl ?_);refine lE HW 0 0 ?_)|((with_reducible refine gq 10 rfl ?_);refine gl (some 31) Tryz.func10 #[(.agg (eC _ _ _ _ _ _ _ _ _ _ _).toArray)] ?_;with_reducible refine(Bc (hE.below (HW.out.underN rfl (Below.refl _ _) (.none _ _))) hS heo.out).mono ?_;rintro e PE ⟨rfl,hb⟩;refine⟨_,rfl,?_⟩;replace HW:=ah.mk (HW.out.quiet hb);clear hb))
   go_ret
   exact⟨rfl,aaH hb1 (HW.out.underN rfl (Below.refl _ _) (.none _ _))⟩
end Go.Proofs.YtokblgdgpnakpaaGreat.PFnEndLess
section
namespace Go.Proofs.YtokblgdgpnakpaaGreat.fnEndLess
open Go.ChangeShapes Go.WideShapes Go.ChangeAt Go.RowKit
open Go.ChangeMaps (open_string shut_string)
open Go.Proofs.YtokblgdgpnakpaaGreatW.PrintWords (gJ.ofRowC Kd.C_of_reads)
theorem own:ownKnob Tryz.prog.godebug=none:=by kernel_rfl
theorem laidOut:laidOutB Tryz.prog=true:=by kernel_rfl
def adx(k:IntKind)(w:World)(a:Option Addr)(len cap:Nat)(zs:List Int):Prop:=
 (a=none∧len=0∧cap=0∧zs=[])∨
 ∃x,a=some x∧len≤cap∧cap≤maxLen∧zs.length=cap∧(∀i,i<zs.length→w.cell? (x.add i)=some (.int k (zs.getD i 0)))∧∀n∈zs,(Lit.int k n).wf=true
theorem aqD(a0:Option Addr)(Tg cap0:Nat)(z0:List Int)(w:World)(w0:adx .u8 w a0 Tg cap0 z0)(y0:Tg*1≤140737488351232):
 Calls Tryz.prog 4 #[.slice a0 Tg cap0] w fun e w'=>e= .returned (.bool true)∧Below w.heap.size w w':=by
 obtain⟨l0,rfl,hr0,hm0,hw0,hc0⟩:=gJ.ofRowC w0
 exact PFnEndLess.less_ct (Go.Proofs.YtokblgdgpnakpaaGreat.Lm.bytes_of_wf hw0) (Kd.C_of_reads (d:=(0:Int)) (h1:=fun _=>rfl) hr0) hc0
theorem lifted(os:Os)(started:os.Started)(H:Type)(enc:TypeId×Value→H):
 ReturnsInHanded {} Tryz.checked os 4 .any (Rows.fnEndLessSpec.pre6 enc Tryz.prog Tryz.f4 Rows.fnEndLessRow.domain false) (Rows.fnEndLessSpec.post enc Tryz.prog Tryz.f4 false true false false):=by
 refine returnsInHanded_of_change_sized (C:=Tryz.checked) own started (by kernel_rfl) Tryz.func4
  (ChangeSpec.witness6 (enc:=enc) (C:=Tryz.checked) false ⟨#[],#[.slice none 0 0],[]⟩ 8 (by kernel_rfl) (by kernel_rfl) (by kernel_rfl) (by kernel_rfl)) ?_
 intro W base args ds gs before hval0 hW hcnd hsz0 _
 have hsz:(DataW.weightsEach Tryz.prog (Tryz.f4.params.toList++Rows.fnEndLessSpec.plain.varTypes Tryz.prog) (ds++gs)).all (· ≤reachBytes)=true:=hsz0
 have hval:∀(j:Nat)t v,Tryz.f4.params[j]?=some t→args[j]?=some v→Value.okWide Tryz.prog W .any base t v:=hval0
 have hW':=hW
 obtain⟨p,q,hA0,hV,rfl,hfz,hnd⟩:=hW
 have hA:DataW.TrodAll enc Tryz.prog W 0 (fun _=>true) true Tryz.f4.params.toList args.toList ds p:=hA0
 rw[Tryz.params4]at hA hval hsz
 obtain⟨v0,vs0,d0,ds0,p0,q0,hargs,rfl,rfl,h0,r0⟩:=trodAll_cons hA
 obtain⟨rfl,rfl,rfl⟩:=trodAll_nil r0
 obtain rfl:args=#[v0]:=by cases args;simp_all
 obtain⟨rfl,rfl⟩:=trodVars_none hV
 obtain⟨a0,Tg,cap0,rfl⟩:=okWide_slice Tryz.underlying22 (hval 0 22 v0 rfl rfl)
 have k0:=h0
 have lt0:∀x∈p0,x.block<W.heap.size:=by obtain⟨m,hm⟩:=k0;exact DataW.trod_lt m _ _ _ hm
 obtain⟨z0,w0⟩:∃zs,adx .u8 W a0 Tg cap0 zs:=by
  obtain⟨fuel,hf⟩:=h0
  rcases open_ints Tryz.underlying22 Tryz.underlying5 (by kernel_rfl) hf with⟨hcs,_⟩|⟨x,l,c,zs,hcs,_,hl,hm,hz,_,hcell,hwz⟩
  ·simp[Value.cells]at hcs
   obtain⟨rfl,rfl,rfl⟩:=hcs
   exact⟨[],.inl ⟨rfl,rfl,rfl,rfl⟩⟩
  ·simp[Value.cells]at hcs
   obtain⟨rfl,rfl,rfl⟩:=hcs
   exact⟨zs,.inr ⟨_,rfl,hl,hm,by simpa using hz,hcell,hwz⟩⟩
 have y0:Tg*1≤140737488351232:=Go.Proofs.YtokblgdgpnakpaaGreatW.PrintWords.sized_ints hsz (j:=0) (t:=22) rfl rfl Tryz.underlying22 Tryz.underlying5 (by kernel_rfl) (by kernel_rfl) h0
 clear hA0 hval0 hsz0 hsz
 refine(aqD a0 Tg cap0 z0 W w0 y0).mono fun e W' ⟨he,bel⟩=>?_
 subst he
 exact⟨_,rfl,_,_,_,[],_,[],hW',trodAll_mk1 (shut_bool Tryz.underlying4 _),(trodAll_cons_mk (Below.trod laidOut (by kernel_rfl) (of_decide_eq_true (by kernel_rfl)) k0 bel lt0) trodAll_mk0),rfl,bel.frame _,fun h=>by cases h⟩
theorem over:Rows.fnEndLessRow.holds Tryz.pinned (OpenSpec.ofChange Rows.fnEndLessSpec):=
 OpenClaim.holds_of_wide 4 Tryz.f4 rfl rfl rfl rfl rfl rfl rfl ⟨rfl,rfl,rfl,rfl,rfl⟩ rfl rfl rfl rfl rfl (by kernel_rfl) Tryz.func4 (by kernel_rfl)
  (of_decide_eq_true (by kernel_rfl)) (by unfold Func.isWrapper;first|(rw[if_pos (by decide+kernel)];kernel_rfl)|(rw[if_neg (by decide+kernel)];exact⟨rfl,rfl⟩))
  (fun os started H enc _=>lifted os started H enc)
theorem proved:Rows.FnEndLessSaid:=over
#print axioms proved
end Go.Proofs.YtokblgdgpnakpaaGreat.fnEndLess
namespace Go.Proofs.YtokblgdgpnakpaaGreat
theorem fnEndLess_holds:Rows.FnEndLessSaid:=fnEndLess.proved
end Go.Proofs.YtokblgdgpnakpaaGreat
end
