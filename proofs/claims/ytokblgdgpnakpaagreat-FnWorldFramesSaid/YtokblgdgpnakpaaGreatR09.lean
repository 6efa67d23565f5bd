/- FnWorldFrames holds: part 9 of a proof that the given program meets it (printed texts and walks of our own, made short by a program). No condition. -/
import Derived.Test.YtokblgdgpnakpaaGreatR08
import Derived.ChangeOld
import Derived.OpenShut
import Derived.ProofKit
import Derived.ShutString
import Derived.Test.YtokblgdgpnakpaaGreatRows
set_option linter.unusedVariables false
set_option linter.unusedSimpArgs false
set_option maxHeartbeats 8000000
set_option maxRecDepth 100000
namespace Go.Proofs.YtokblgdgpnakpaaGreat.PFnEndLess
open Go.RowKit Go.Proofs.YtokblgdgpnakpaaGreatW.PrintWords Go.Proofs.YtokblgdgpnakpaaGreatW.PrintLast Go.Proofs.YtokblgdgpnakpaaGreatW.PrintMore Go.Proofs.YtokblgdgpnakpaaGreat.Lm
open Go.Proofs.YtokblgdgpnakpaaGreat.Pure
attribute [local go_sem] bA bn bV bW aW aV bE bF
attribute [local go_sem high] ae1
def FnWorldFrames.T14:Bool×List (List Nat×List Nat):=(true,[([],[]),([0],[0]),([1],[1]),([2],[2]),([2],[2]),([2],[2]),([4,5,2],[2,4,5]),([6,2],[2,6]),([3,7,2],[2,3,7]),([2,8],[2,8])])
def FnWorldFrames.B14:List Nat:=[0,1,3,7,7,7,55,119,255,511]
theorem FnWorldFrames.tab14:jG .any (opsOf Tryz.f5 14)=FnWorldFrames.T14:=by kernel_rfl
theorem FnWorldFrames.bits14:fQ FnWorldFrames.T14.2 FnWorldFrames.B14=true:=by kernel_rfl
theorem frames_ct{w:World}{A:Option Addr}{c:Nat}{l:List Int}(hl:Bytes l)(hr:Kd.C (Kd.int .u8) w A l.length l)(hc:l.length≤c):Calls Tryz.prog 5 #[.slice A l.length c] w fun e w'=>e= .returned (.bool true)∧Below w.heap.size w w':=by
 go_enter Tryz.func5,Tryz.ntmps5
 go_upto_if 16 with(fail)
 by_cases arl:(l.length:Int)>1048576
 ·skip
  have arn:=decide_eq_true arl
  go_wp2_with (fail)
  go_ret
  exact⟨rfl,Below.refl _ _⟩
 ·skip
  have arn:=decide_eq_false arl
  go_upto_region 5 with(first|((with_reducible refine gq 15 rfl ?_);refine gl (some 19) Tryz.func15 #[(.slice A l.length c)] ?_;with_reducible refine(zA hl rfl hr hc).mono ?_;rintro e w1 h_;obtain⟨x0,v1_,x2,v3_,x4,x5,v6_,x7,x8,v9_,x10,y0,u1_,y2,u3_,y4,y5,u6_,y7,y8,u9_,oH,su,sd,way,rfl,hD,hD2,⟨h5c_,h5d_⟩,hb1⟩:=h_.out;refine⟨_,rfl,?_⟩;obtain⟨l1,l3,l6,l9,hE,hS,_,_⟩:=hD.rd (by decide);have h5a_:=hD.c5;clear hD;obtain⟨k1,k3,k6,k9,hF,hS2,_,_⟩:=hD2.rd (by decide);have h5b_:=hD2.c5;clear hD2;obtain⟨A1,c1,e_,_⟩:=hE.r1;subst e_;obtain⟨A3,c3,e_,_⟩:=hE.r3;subst e_;obtain⟨A6,c6,e_,_⟩:=hE.r6;subst e_;obtain⟨A9,c9,e_,_⟩:=hE.r9;subst e_;obtain⟨B1,d1,e_,_⟩:=hF.r1;subst e_;obtain⟨B3,d3,e_,_⟩:=hF.r3;subst e_;obtain⟨B6,d6,e_,_⟩:=hF.r6;subst e_;obtain⟨B9,d9,e_,_⟩:=hF.r9;subst e_;obtain⟨ex,hX⟩:∃r,ah (vG x0 l1 x2 l3 x4 x5 l6 x7 x8 l9=r):=⟨_,⟨rfl⟩⟩;obtain⟨ey,hY⟩:∃r,ah (vG y0 k1 y2 k3 y4 y5 k6 y7 y8 k9=r):=⟨_,⟨rfl⟩⟩;obtain⟨wo,hwo⟩:∃r,ah ((ex&&(ey&&(!x0&&(y0&&(decide ((su.size:Int)≤800)&&decide ((sd.size:Int)≤800))))))=r):=⟨_,⟨rfl⟩⟩;obtain⟨iw,hiw⟩:∃r,ah (decide (0≤way∧way≤1)=r):=⟨_,⟨rfl⟩⟩;obtain⟨all,hall⟩:∃r,ah (Hf wo iw way x5 y5 su sd=r):=⟨_,⟨rfl⟩⟩;have yo:=ah.mk (Yr hall.out (by omega) (by omega) (by omega) (by omega));have HW:ah (LW w1.heap.size NX rE w1 [] (fun _ _=>True) rE w1):=⟨LW.start (.none _ _) trivial (Mon.top _)⟩)|((with_reducible refine gd 3 rfl ?_);refine lbx (N:=3) (t:=47) HW zW ?_;clear HW;intro g3 Cv HW)|((with_reducible refine gt 47 3 rfl ?_);refine iC HW 0 ?_;clear HW;intro Ee HW)|((with_reducible refine gd 22 rfl ?_);refine vO HW 0 0 ?_)|((with_reducible refine gq 16 rfl ?_);refine gl (some 24) Tryz.func16 #[(.agg (wC _ _ _ _ _ _ _ _ _ _ _ _ _ _ _ _ _ _ _ _ _ _ _ _).toArray),(.int .i64 way)] ?_;with_reducible refine(ajV (hE.below (HW.out.underN rfl (Below.refl _ _) (.none _ _))) hS hX.out (hF.below (HW.out.underN rfl (Below.refl _ _) (.none _ _))) hS2 hY.out hwo.out hiw.out hall.out ⟨by omega,by omega,by omega,by omega⟩).mono ?_;rintro e I7 ⟨v_,aro,rfl,hL_,wX⟩;refine⟨_,rfl,?_⟩;obtain⟨Jw,Jy,rfl,aLo⟩:=wX.frlen;replace HW:=ah.mk (HW.out.join hL_ hL_.quietly);clear hL_;(try simp only[List.cons_append,List.nil_append,List.append_assoc]at HW)))
  cases wo with
  |true=>
   by_cases c116:way<0
   ·skip
    have Qn:=decide_eq_true c116
    go_wp2_with (first|((with_reducible refine gd 26 rfl ?_);refine vO HW 0 0 ?_)|((with_reducible refine gq 17 rfl ?_);refine gl (some 28) Tryz.func17 #[(.agg (wC _ _ _ _ _ _ _ _ _ _ _ _ _ _ _ _ _ _ _ _ _ _ _ _).toArray),(.int .i64 way)] ?_;with_reducible refine(Da (hE.below (HW.out.underN rfl (Below.refl _ _) (.none _ _))) hS hX.out (hF.below (HW.out.underN rfl (Below.refl _ _) (.none _ _))) hS2 hY.out hwo.out hiw.out hall.out ⟨by omega,by omega,by omega,by omega⟩).mono ?_;rintro e vP ⟨v_,aLn,rfl,hL_,ae3⟩;refine⟨_,rfl,?_⟩;obtain⟨arp,arq,rfl,aLp⟩:=ae3.frlen;replace HW:=ah.mk (HW.out.join hL_ hL_.quietly);clear hL_;(try simp only[List.cons_append,List.nil_append,List.append_assoc]at HW))|((with_reducible refine gq 12 rfl ?_);refine gl (some 29) Tryz.func12 #[(.slice Jw all.length Jy),(.slice arp all.length arq)] ?_;with_reducible refine(D7 wX ae3 (BX.l HW.out.drop.bxs) (BX.r HW.out.drop.bxs) yo.out).mono ?_;rintro e uZ ⟨rfl,hb⟩;refine⟨_,rfl,?_⟩;replace HW:=ah.mk (HW.out.quiet hb);clear hb)|((with_reducible refine gd 32 rfl ?_);refine ay (by rfl) ?_;dsimp only;refine qi HW 0 0 (wC _ _ _ _ _ _ _ _ _ _ _ _ _ _ _ _ _ _ _ _ _ _ _ _) Tryz.underlying47 ?_)|(go_at_call 18;with_reducible refine(uE (hE.below (HW.out.underN rfl (Below.refl _ _) (.none _ _))) hS hX.out (hF.below (HW.out.underN rfl (Below.refl _ _) (.none _ _))) hS2 hY.out hwo.out).mono ?_;rintro e Cq ⟨rfl,hb⟩;replace HW:=ah.mk (HW.out.quiet hb);clear hb)|((with_reducible refine gd 45 rfl ?_);refine vO HW 0 0 ?_)|((with_reducible refine gq 17 rfl ?_);refine gl (some 47) Tryz.func17 #[(.agg (wC _ _ _ _ _ _ _ _ _ _ _ _ _ _ _ _ _ _ _ _ _ _ _ _).toArray),(.int .i64 way)] ?_;with_reducible refine(Da (hE.below (HW.out.underN rfl (Below.refl _ _) (.none _ _))) hS hX.out (hF.below (HW.out.underN rfl (Below.refl _ _) (.none _ _))) hS2 hY.out hwo.out hiw.out hall.out ⟨by omega,by omega,by omega,by omega⟩).mono ?_;rintro e zw ⟨v_,aUb,rfl,hL_,ae4⟩;refine⟨_,rfl,?_⟩;obtain⟨ars,aru,rfl,aLq⟩:=ae4.frlen;replace HW:=ah.mk (HW.out.join hL_ hL_.quietly);clear hL_;(try simp only[List.cons_append,List.nil_append,List.append_assoc]at HW))|((with_reducible refine gq 12 rfl ?_);refine gl (some 48) Tryz.func12 #[(.slice Jw all.length Jy),(.slice ars all.length aru)] ?_;with_reducible refine(D7 wX ae4 (BX.l HW.out.drop.bxs) (BX.r (BX.r HW.out.drop.bxs)) yo.out).mono ?_;rintro e Cr ⟨rfl,hb⟩;refine⟨_,rfl,?_⟩;replace HW:=ah.mk (HW.out.quiet hb);clear hb))
    go_ret
    exact⟨by first|rfl|(rw[Jz]),a3H hb1 (HW.out.underN rfl (Below.refl _ _) (.none _ _))⟩
   ·skip
    have Qn:=decide_eq_false c116
    go_upto_if 43 with(first|((with_reducible refine gd 26 rfl ?_);refine vO HW 0 0 ?_)|((with_reducible refine gq 17 rfl ?_);refine gl (some 28) Tryz.func17 #[(.agg (wC _ _ _ _ _ _ _ _ _ _ _ _ _ _ _ _ _ _ _ _ _ _ _ _).toArray),(.int .i64 way)] ?_;with_reducible refine(Da (hE.below (HW.out.underN rfl (Below.refl _ _) (.none _ _))) hS hX.out (hF.below (HW.out.underN rfl (Below.refl _ _) (.none _ _))) hS2 hY.out hwo.out hiw.out hall.out ⟨by omega,by omega,by omega,by omega⟩).mono ?_;rintro e GJ ⟨v_,arv,rfl,hL_,ae5⟩;refine⟨_,rfl,?_⟩;obtain⟨arw,arx,rfl,aLr⟩:=ae5.frlen;replace HW:=ah.mk (HW.out.join hL_ hL_.quietly);clear hL_;(try simp only[List.cons_append,List.nil_append,List.append_assoc]at HW))|((with_reducible refine gq 12 rfl ?_);refine gl (some 29) Tryz.func12 #[(.slice Jw all.length Jy),(.slice arw all.length arx)] ?_;with_reducible refine(D7 wX ae5 (BX.l HW.out.drop.bxs) (BX.r HW.out.drop.bxs) yo.out).mono ?_;rintro e GK ⟨rfl,hb⟩;refine⟨_,rfl,?_⟩;replace HW:=ah.mk (HW.out.quiet hb);clear hb)|((with_reducible refine gd 32 rfl ?_);refine ay (by rfl) ?_;dsimp only;refine qi HW 0 0 (wC _ _ _ _ _ _ _ _ _ _ _ _ _ _ _ _ _ _ _ _ _ _ _ _) Tryz.underlying47 ?_)|(go_at_call 18;with_reducible refine(uE (hE.below (HW.out.underN rfl (Below.refl _ _) (.none _ _))) hS hX.out (hF.below (HW.out.underN rfl (Below.refl _ _) (.none _ _))) hS2 hY.out hwo.out).mono ?_;rintro e LF ⟨rfl,hb⟩;replace HW:=ah.mk (HW.out.quiet hb);clear hb))
    by_cases vo:way>1
    ·skip
     have GZ:=decide_eq_true vo
     go_wp2_with (first|((with_reducible refine gd 45 rfl ?_);refine vO HW 0 0 ?_)|((with_reducible refine gq 17 rfl ?_);refine gl (some 47) Tryz.func17 #[(.agg (wC _ _ _ _ _ _ _ _ _ _ _ _ _ _ _ _ _ _ _ _ _ _ _ _).toArray),(.int .i64 way)] ?_;with_reducible refine(Da (hE.below (HW.out.underN rfl (Below.refl _ _) (.none _ _))) hS hX.out (hF.below (HW.out.underN rfl (Below.refl _ _) (.none _ _))) hS2 hY.out hwo.out hiw.out hall.out ⟨by omega,by omega,by omega,by omega⟩).mono ?_;rintro e a2S ⟨v_,aUc,rfl,hL_,ae6⟩;refine⟨_,rfl,?_⟩;obtain⟨arz,arA,rfl,aLs⟩:=ae6.frlen;replace HW:=ah.mk (HW.out.join hL_ hL_.quietly);clear hL_;(try simp only[List.cons_append,List.nil_append,List.append_assoc]at HW))|((with_reducible refine gq 12 rfl ?_);refine gl (some 48) Tryz.func12 #[(.slice Jw all.length Jy),(.slice arz all.length arA)] ?_;with_reducible refine(D7 wX ae6 (BX.l HW.out.drop.bxs) (BX.r (BX.r HW.out.drop.bxs)) yo.out).mono ?_;rintro e Qh ⟨rfl,hb⟩;refine⟨_,rfl,?_⟩;replace HW:=ah.mk (HW.out.quiet hb);clear hb))
     go_ret
     exact⟨by first|rfl|(rw[Jz]),a3H hb1 (HW.out.underN rfl (Below.refl _ _) (.none _ _))⟩
    ·skip
     have GZ:=decide_eq_false vo
     go_upto_region 7 with(fail)
     have iw_:iw=true:=by rw[←hiw.out];exact decide_eq_true ⟨by omega,by omega⟩
     subst iw_
     have yG:=hall.out
     have ark:(y5++su).size=y5.size+su.size:=aK _ _
     have abr:(x5++sd).size=x5.size+sd.size:=aK _ _
     have I9:(9223372036854775807<y5.size+su.size)=False:=eq_false (by omega)
     have ae2:(9223372036854775807<x5.size+sd.size)=False:=eq_false (by omega)
     go_upto_if 56 with(first|((with_reducible refine gd 51 rfl ?_);refine lls HW 0 16 _ Tryz.underlying9 ?_)|((with_reducible refine gd 53 rfl ?_);refine lls HW 0 22 _ Tryz.underlying9 ?_))
     by_cases ajX:way=1
     ·skip
      subst ajX
      replace yG:DT 2000 (x5++sd)=all:=by first|exact D8 yG|exact D9 yG (by assumption)
      go_wp2_with (first|((with_reducible refine gd 59 rfl ?_);refine lls HW 0 5 _ Tryz.underlying9 ?_)|((with_reducible refine gd 61 rfl ?_);refine lls HW 0 23 _ Tryz.underlying9 ?_))
      (try rw[show(way==1)=false from beq_eq_false_iff_ne.mpr (by assumption)])
      go_loopg [6,7] (2000) (fun kq y6_ y7_ wq=>∃(nq:Nat)(bq:ByteArray)(iq:Int),y6_= .string bq∧y7_= .int .i64 iq∧ah (nq≤kq∧0≤iq∧iq≤(all.length:Int)∧bq.size≤nq∧all.drop iq.toNat=DT nq bq∧bq.size≤2000)∧ah (LW w1.heap.size NX rE w1 (⟨g3,wC x0 (.slice A1 l1.length c1) x2 (.slice A3 l3.length c3) x4 x5 (.slice A6 l6.length c6) x7 x8 (.slice A9 l9.length c9) x10 y0 (.slice B1 k1.length d1) y2 (.slice B3 k3.length d3) y4 y5 (.slice B6 k6.length d6) y7 y8 (.slice B9 k9.length d9) oH su sd,47⟩::(aro++arv)) (fun _ _=>True) rE wq))
      case atStart=>exact⟨2000,_,0,rfl,rfl,⟨⟨by omega,by omega,by omega,by omega,yG.symm,by omega⟩⟩,HW⟩
      case round=>
       clear HW yG
       obtain⟨nq,bq,iq,rfl,rfl,HI,HC⟩:=hrel
       have HW:=HC
       clear HC
       obtain⟨a3S,hi0,hi1,hbk,hdr,hb2⟩:=HI.out
       clear HI
       obtain⟨f0,f1,f2,f3,us,is,hrd⟩:∃f0 f1 f2 f3 us is,vS bq=(f0,f1,f2,f3,us,is):=⟨_,_,_,_,_,_,rfl⟩
       obtain⟨ajY,a3U⟩:=Qw hbk hdr hrd
       have arB:=yo.out
       go_upto_if 66 with(fail)
       by_cases arC:iq<(all.length:Int)
       ·skip
        have arD:=decide_eq_true arC
        go_upto_region 13 with(fail)
        obtain⟨nP,Hg,sZ,a3T,ajZ,ak0⟩:=ajY (by omega)
        subst nP
        have cs_:((1:Int) != 1)=false:=rfl
        have p1_:=eq_true Hg
        have p2_:=eq_true sZ
        obtain⟨kw,cw,ew_,_⟩:=wX.some (i:=iq.toNat) (by rw[List.length_map];omega)
        rw[List.length_map]at ew_
        injection ew_ with e1_ _ e3_
        subst e1_ e3_
        have YA:=eq_true hi0
        have YB:=eq_true (show iq<(all.length:Int) by omega)
        go_upto_region 14 with(first|((with_reducible refine gq 19 rfl ?_);refine gl (some 71) Tryz.func19 #[(.string bq)] ?_;with_reducible refine(D6 _ hrd).mono ?_;rintro e a2I ⟨rfl,hb⟩;refine⟨_,rfl,?_⟩;replace HW:=ah.mk (HW.out.quiet hb);clear hb)|((with_reducible refine gd 8 rfl ?_);refine lbx (N:=8) (t:=42) HW (fC 0 false 0 (⟨#[]⟩:ByteArray)) ?_;clear HW;intro g8 aaN HW)|((with_reducible refine gt 42 8 rfl ?_);refine iC HW 0 ?_;clear HW;intro a2J HW))
        refine mY HW (fun W=>W.rangeAt kw (iq.toNat*4) (fC f0 f1 f2 f3)) [] 10 (wX.get (BX.l HW.out.drew.drop.drop.bxs) (by rw[List.getElem?_map,ajZ];rfl)) (fun ahY HN hHeld=>?_)
        replace HW:=HN
        clear HN
        refine bK FnWorldFrames.tab14 FnWorldFrames.bits14 (fun HT_ HW_=>?_)
        refine pw 0 ?_
        refine pw 1 ?_
        refine pw 2 ?_
        refine tk 3 (some 78) (bm 10 15) rfl rfl hHeld ?_ (hy:=Wp _ 0 0 (fC _ _ _ _) Tryz.underlying42)
        refine pw 4 ?_
        refine pw 5 ?_
        refine pw 6 ?_
        refine tk 7 (some 82) (bm 10 255) rfl rfl hHeld ?_ (hy:=yrw (fC f0 f1 f2 f3) (fun W h=>h) Tryz.underlying42)
        refine pw 8 ?_
        refine pw 9 ?_
        refine dn ?_
        clear HT_ HW_
        go_upto_if 84 with(fail)
        have ce_:(!(f0==f0&&(f1==f1&&(f2==f2&&(f3.toList==f3.toList)))))=false:=by simp
        have ak1:wrap64 (iq+1)=iq+1:=dL _ (by omega) (by omega)
        go_wp2_with (fail)
        go_roundg (nq-1)
        case measure=>omega
        case rel=>exact⟨nq-1,_,iq+1,rfl,by first|rfl|(congr 1;done)|(rw[←ak1];rfl),⟨⟨by omega,by omega,by omega,by omega,by rw[show(iq+1).toNat=iq.toNat+1 by omega];exact ak0,by omega⟩⟩,⟨HW.out.drop⟩⟩
       ·skip
        have arD:=decide_eq_false arC
        go_upto_region 17 with(fail)
        have nP:=a3U (by omega)
        have Jz:(is != 1)=true:=bne_iff_ne.mpr (by omega)
        go_wp2_with (first|((with_reducible refine gq 19 rfl ?_);refine gl (some 90) Tryz.func19 #[(.string bq)] ?_;with_reducible refine(D6 _ hrd).mono ?_;rintro e aqd ⟨rfl,hb⟩;refine⟨_,rfl,?_⟩;replace HW:=ah.mk (HW.out.quiet hb);clear hb)|((with_reducible refine gd 11 rfl ?_);refine lbx (N:=11) (t:=42) HW (fC 0 false 0 (⟨#[]⟩:ByteArray)) ?_;clear HW;intro g11 aqF HW)|((with_reducible refine gt 42 11 rfl ?_);refine iC HW 0 ?_;clear HW;intro ahv HW))
        go_ret
        exact⟨by first|rfl|(rw[Jz]),a3H hb1 (HW.out.underN rfl (Below.refl _ _) (.none _ _))⟩
     ·skip
      have aPX:(way==1)=false:=beq_eq_false_iff_ne.mpr ajX
      have aPY:(way != 1)=true:=bne_iff_ne.mpr ajX
      replace yG:DT 2000 (y5++su)=all:=by first|exact D8 yG|exact D9 yG (by assumption)
      go_wp2_with (fail)
      (try rw[show(way==1)=false from beq_eq_false_iff_ne.mpr (by assumption)])
      go_loopg [6,7] (2000) (fun kq y6_ y7_ wq=>∃(nq:Nat)(bq:ByteArray)(iq:Int),y6_= .string bq∧y7_= .int .i64 iq∧ah (nq≤kq∧0≤iq∧iq≤(all.length:Int)∧bq.size≤nq∧all.drop iq.toNat=DT nq bq∧bq.size≤2000)∧ah (LW w1.heap.size NX rE w1 (⟨g3,wC x0 (.slice A1 l1.length c1) x2 (.slice A3 l3.length c3) x4 x5 (.slice A6 l6.length c6) x7 x8 (.slice A9 l9.length c9) x10 y0 (.slice B1 k1.length d1) y2 (.slice B3 k3.length d3) y4 y5 (.slice B6 k6.length d6) y7 y8 (.slice B9 k9.length d9) oH su sd,47⟩::(aro++arv)) (fun _ _=>True) rE wq))
      case atStart=>exact⟨2000,_,0,rfl,rfl,⟨⟨by omega,by omega,by omega,by omega,yG.symm,by omega⟩⟩,HW⟩
      case round=>
       clear HW yG
       obtain⟨nq,bq,iq,rfl,rfl,HI,HC⟩:=hrel
       have HW:=HC
       clear HC
       obtain⟨a3S,hi0,hi1,hbk,hdr,hb2⟩:=HI.out
       clear HI
       obtain⟨f0,f1,f2,f3,us,is,hrd⟩:∃f0 f1 f2 f3 us is,vS bq=(f0,f1,f2,f3,us,is):=⟨_,_,_,_,_,_,rfl⟩
       obtain⟨ajY,a3U⟩:=Qw hbk hdr hrd
       have arB:=yo.out
       go_upto_if 66 with(fail)
       by_cases c141:iq<(all.length:Int)
       ·skip
        have a2T:=decide_eq_true c141
        go_upto_region 13 with(fail)
        obtain⟨nP,Hg,sZ,a3T,ajZ,ak0⟩:=ajY (by omega)
        subst nP
        have cs_:((1:Int) != 1)=false:=rfl
        have p1_:=eq_true Hg
        have p2_:=eq_true sZ
        obtain⟨kw,cw,ew_,_⟩:=wX.some (i:=iq.toNat) (by rw[List.length_map];omega)
        rw[List.length_map]at ew_
        injection ew_ with e1_ _ e3_
        subst e1_ e3_
        have YA:=eq_true hi0
        have YB:=eq_true (show iq<(all.length:Int) by omega)
        go_upto_region 14 with(first|((with_reducible refine gq 19 rfl ?_);refine gl (some 71) Tryz.func19 #[(.string bq)] ?_;with_reducible refine(D6 _ hrd).mono ?_;rintro e a2L ⟨rfl,hb⟩;refine⟨_,rfl,?_⟩;replace HW:=ah.mk (HW.out.quiet hb);clear hb)|((with_reducible refine gd 8 rfl ?_);refine lbx (N:=8) (t:=42) HW (fC 0 false 0 (⟨#[]⟩:ByteArray)) ?_;clear HW;intro g8 ahN HW)|((with_reducible refine gt 42 8 rfl ?_);refine iC HW 0 ?_;clear HW;intro aaz HW))
        refine mY HW (fun W=>W.rangeAt kw (iq.toNat*4) (fC f0 f1 f2 f3)) [] 10 (wX.get (BX.l HW.out.drew.drop.drop.bxs) (by rw[List.getElem?_map,ajZ];rfl)) (fun ahy HN hHeld=>?_)
        replace HW:=HN
        clear HN
        refine bK FnWorldFrames.tab14 FnWorldFrames.bits14 (fun HT_ HW_=>?_)
        refine pw 0 ?_
        refine pw 1 ?_
        refine pw 2 ?_
        refine tk 3 (some 78) (bm 10 15) rfl rfl hHeld ?_ (hy:=Wp _ 0 0 (fC _ _ _ _) Tryz.underlying42)
        refine pw 4 ?_
        refine pw 5 ?_
        refine pw 6 ?_
        refine tk 7 (some 82) (bm 10 255) rfl rfl hHeld ?_ (hy:=yrw (fC f0 f1 f2 f3) (fun W h=>h) Tryz.underlying42)
        refine pw 8 ?_
        refine pw 9 ?_
        refine dn ?_
        clear HT_ HW_
        go_upto_if 84 with(fail)
        have ce_:(!(f0==f0&&(f1==f1&&(f2==f2&&(f3.toList==f3.toList)))))=false:=by simp
        have ak1:wrap64 (iq+1)=iq+1:=dL _ (by omega) (by omega)
        go_wp2_with (fail)
        go_roundg (nq-1)
        case measure=>omega
        case rel=>exact⟨nq-1,_,iq+1,rfl,by first|rfl|(congr 1;done)|(rw[←ak1];rfl),⟨⟨by omega,by omega,by omega,by omega,by rw[show(iq+1).toNat=iq.toNat+1 by omega];exact ak0,by omega⟩⟩,⟨HW.out.drop⟩⟩
       ·skip
        have a2T:=decide_eq_false c141
        go_upto_region 17 with(fail)
        have nP:=a3U (by omega)
        have Jz:(is != 1)=true:=bne_iff_ne.mpr (by omega)
        go_wp2_with (first|((with_reducible refine gq 19 rfl ?_);refine gl (some 90) Tryz.func19 #[(.string bq)] ?_;with_reducible refine(D6 _ hrd).mono ?_;rintro e aHz ⟨rfl,hb⟩;refine⟨_,rfl,?_⟩;replace HW:=ah.mk (HW.out.quiet hb);clear hb)|((with_reducible refine gd 11 rfl ?_);refine lbx (N:=11) (t:=42) HW (fC 0 false 0 (⟨#[]⟩:ByteArray)) ?_;clear HW;intro g11 ahz HW)|((with_reducible refine gt 42 11 rfl ?_);refine iC HW 0 ?_;clear HW;intro aqI HW))
        go_ret
        exact⟨by first|rfl|(rw[Jz]),a3H hb1 (HW.out.underN rfl (Below.refl _ _) (.none _ _))⟩
  |false=>
   go_wp2_with (first|((with_reducible refine gd 26 rfl ?_);refine vO HW 0 0 ?_)|((with_reducible refine gq 17 rfl ?_);refine gl (some 28) Tryz.func17 #[(.agg (wC _ _ _ _ _ _ _ _ _ _ _ _ _ _ _ _ _ _ _ _ _ _ _ _).toArray),(.int .i64 way)] ?_;with_reducible refine(Da (hE.below (HW.out.underN rfl (Below.refl _ _) (.none _ _))) hS hX.out (hF.below (HW.out.underN rfl (Below.refl _ _) (.none _ _))) hS2 hY.out hwo.out hiw.out hall.out ⟨by omega,by omega,by omega,by omega⟩).mono ?_;rintro e a2P ⟨v_,aUf,rfl,hL_,ae7⟩;refine⟨_,rfl,?_⟩;obtain⟨arF,arG,rfl,aLw⟩:=ae7.frlen;replace HW:=ah.mk (HW.out.join hL_ hL_.quietly);clear hL_;(try simp only[List.cons_append,List.nil_append,List.append_assoc]at HW))|((with_reducible refine gq 12 rfl ?_);refine gl (some 29) Tryz.func12 #[(.slice Jw all.length Jy),(.slice arF all.length arG)] ?_;with_reducible refine(D7 wX ae7 (BX.l HW.out.drop.bxs) (BX.r HW.out.drop.bxs) yo.out).mono ?_;rintro e Yj ⟨rfl,hb⟩;refine⟨_,rfl,?_⟩;replace HW:=ah.mk (HW.out.quiet hb);clear hb)|((with_reducible refine gd 32 rfl ?_);refine ay (by rfl) ?_;dsimp only;refine qi HW 0 0 (wC _ _ _ _ _ _ _ _ _ _ _ _ _ _ _ _ _ _ _ _ _ _ _ _) Tryz.underlying47 ?_)|(go_at_call 18;with_reducible refine(uE (hE.below (HW.out.underN rfl (Below.refl _ _) (.none _ _))) hS hX.out (hF.below (HW.out.underN rfl (Below.refl _ _) (.none _ _))) hS2 hY.out hwo.out).mono ?_;rintro e ai8 ⟨rfl,hb⟩;replace HW:=ah.mk (HW.out.quiet hb);clear hb)|((with_reducible refine gd 45 rfl ?_);refine vO HW 0 0 ?_)|((with_reducible refine gq 17 rfl ?_);refine gl (some 47) Tryz.func17 #[(.agg (wC _ _ _ _ _ _ _ _ _ _ _ _ _ _ _ _ _ _ _ _ _ _ _ _).toArray),(.int .i64 way)] ?_;with_reducible refine(Da (hE.below (HW.out.underN rfl (Below.refl _ _) (.none _ _))) hS hX.out (hF.below (HW.out.underN rfl (Below.refl _ _) (.none _ _))) hS2 hY.out hwo.out hiw.out hall.out ⟨by omega,by omega,by omega,by omega⟩).mono ?_;rintro e aaO ⟨v_,aUg,rfl,hL_,ae8⟩;refine⟨_,rfl,?_⟩;obtain⟨arH,arI,rfl,aLx⟩:=ae8.frlen;replace HW:=ah.mk (HW.out.join hL_ hL_.quietly);clear hL_;(try simp only[List.cons_append,List.nil_append,List.append_assoc]at HW))|((with_reducible refine gq 12 rfl ?_);refine gl (some 48) Tryz.func12 #[(.slice Jw all.length Jy),(.slice arH all.length arI)] ?_;with_reducible refine(D7 wX ae8 (BX.l HW.out.drop.bxs) (BX.r (BX.r HW.out.drop.bxs)) yo.out).mono ?_;rintro e aaE ⟨rfl,hb⟩;refine⟨_,rfl,?_⟩;replace HW:=ah.mk (HW.out.quiet hb);clear hb))
   go_ret
   exact⟨by first|rfl|(rw[Jz]),a3H hb1 (HW.out.underN rfl (Below.refl _ _) (.none _ _))⟩
end Go.Proofs.YtokblgdgpnakpaaGreat.PFnEndLess
section
namespace Go.Proofs.YtokblgdgpnakpaaGreat.fnWorldFrames
open Go.ChangeShapes Go.WideShapes Go.ChangeAt Go.RowKit
open Go.ChangeMaps (open_string shut_string)
open Go.Proofs.YtokblgdgpnakpaaGreatW.PrintWords (gK.ofRowC Kd.C_of_reads)
theorem own:ownKnob Tryz.prog.godebug=none:=by kernel_rfl
theorem laidOut:laidOutB Tryz.prog=true:=by kernel_rfl
def ae9(k:IntKind)(w:World)(a:Option Addr)(len cap:Nat)(zs:List Int):Prop:=
 (a=none∧len=0∧cap=0∧zs=[])∨
 ∃x,a=some x∧len≤cap∧cap≤maxLen∧zs.length=cap∧(∀i,i<zs.length→w.cell? (x.add i)=some (.int k (zs.getD i 0)))∧∀n∈zs,(Lit.int k n).wf=true
theorem arJ(a0:Option Addr)(Tz cap0:Nat)(z0:List Int)(w:World)(w0:ae9 .u8 w a0 Tz cap0 z0)(y0:Tz*1≤140737488351232):
 Calls Tryz.prog 5 #[.slice a0 Tz cap0] w fun e w'=>e= .returned (.bool true)∧Below w.heap.size w w':=by
 obtain⟨l0,rfl,hr0,hm0,hw0,hc0⟩:=gK.ofRowC w0
 exact PFnEndLess.frames_ct (Go.Proofs.YtokblgdgpnakpaaGreat.Lm.bytes_of_wf hw0) (Kd.C_of_reads (d:=(0:Int)) (h1:=fun _=>rfl) hr0) hc0
theorem lifted(os:Os)(started:os.Started)(H:Type)(enc:TypeId×Value→H):
 ReturnsInHanded {} Tryz.checked os 5 .any (Rows.fnWorldFramesSpec.pre6 enc Tryz.prog Tryz.f5 Rows.fnWorldFramesRow.domain false) (Rows.fnWorldFramesSpec.post enc Tryz.prog Tryz.f5 false true false false):=by
 refine returnsInHanded_of_change_sized (C:=Tryz.checked) own started (by kernel_rfl) Tryz.func5
  (ChangeSpec.witness6 (enc:=enc) (C:=Tryz.checked) false ⟨#[],#[.slice none 0 0],[]⟩ 8 (by kernel_rfl) (by kernel_rfl) (by kernel_rfl) (by kernel_rfl)) ?_
 intro W base args ds gs before hval0 hW hcnd hsz0 _
 have hsz:(DataW.weightsEach Tryz.prog (Tryz.f5.params.toList++Rows.fnWorldFramesSpec.plain.varTypes Tryz.prog) (ds++gs)).all (· ≤reachBytes)=true:=hsz0
 have hval:∀(j:Nat)t v,Tryz.f5.params[j]?=some t→args[j]?=some v→Value.okWide Tryz.prog W .any base t v:=hval0
 have hW':=hW
 obtain⟨p,q,hA0,hV,rfl,hfz,hnd⟩:=hW
 have hA:DataW.TrodAll enc Tryz.prog W 0 (fun _=>true) true Tryz.f5.params.toList args.toList ds p:=hA0
 rw[Tryz.params5]at hA hval hsz
 obtain⟨v0,vs0,d0,ds0,p0,q0,hargs,rfl,rfl,h0,r0⟩:=trodAll_cons hA
 obtain⟨rfl,rfl,rfl⟩:=trodAll_nil r0
 obtain rfl:args=#[v0]:=by cases args;simp_all
 obtain⟨rfl,rfl⟩:=trodVars_none hV
 obtain⟨a0,Tz,cap0,rfl⟩:=okWide_slice Tryz.underlying22 (hval 0 22 v0 rfl rfl)
 have k0:=h0
 have lt0:∀x∈p0,x.block<W.heap.size:=by obtain⟨m,hm⟩:=k0;exact DataW.trod_lt m _ _ _ hm
 obtain⟨z0,w0⟩:∃zs,ae9 .u8 W a0 Tz cap0 zs:=by
  obtain⟨fuel,hf⟩:=h0
  rcases open_ints Tryz.underlying22 Tryz.underlying5 (by kernel_rfl) hf with⟨hcs,_⟩|⟨x,l,c,zs,hcs,_,hl,hm,hz,_,hcell,hwz⟩
  ·simp[Value.cells]at hcs
   obtain⟨rfl,rfl,rfl⟩:=hcs
   exact⟨[],.inl ⟨rfl,rfl,rfl,rfl⟩⟩
  ·simp[Value.cells]at hcs
   obtain⟨rfl,rfl,rfl⟩:=hcs
   exact⟨zs,.inr ⟨_,rfl,hl,hm,by simpa using hz,hcell,hwz⟩⟩
 have y0:Tz*1≤140737488351232:=Go.Proofs.YtokblgdgpnakpaaGreatW.PrintWords.sized_ints hsz (j:=0) (t:=22) rfl rfl Tryz.underlying22 Tryz.underlying5 (by kernel_rfl) (by kernel_rfl) h0
 clear hA0 hval0 hsz0 hsz
 refine(arJ a0 Tz cap0 z0 W w0 y0).mono fun e W' ⟨he,bel⟩=>?_
 subst he
 exact⟨_,rfl,_,_,_,[],_,[],hW',trodAll_mk1 (shut_bool Tryz.underlying4 _),(trodAll_cons_mk (Below.trod laidOut (by kernel_rfl) (of_decide_eq_true (by kernel_rfl)) k0 bel lt0) trodAll_mk0),rfl,bel.frame _,fun h=>by cases h⟩
theorem over:Rows.fnWorldFramesRow.holds Tryz.pinned (OpenSpec.ofChange Rows.fnWorldFramesSpec):=
 OpenClaim.holds_of_wide 5 Tryz.f5 rfl rfl rfl rfl rfl rfl rfl ⟨rfl,rfl,rfl,rfl,rfl⟩ rfl rfl rfl rfl rfl (by kernel_rfl) Tryz.func5 (by kernel_rfl)
  (of_decide_eq_true (by kernel_rfl)) (by unfold Func.isWrapper;first|(rw[if_pos (by decide+kernel)];kernel_rfl)|(rw[if_neg (by decide+kernel)];exact⟨rfl,rfl⟩))
  (fun os started H enc _=>lifted os started H enc)
theorem proved:Rows.FnWorldFramesSaid:=over
#print axioms proved
end Go.Proofs.YtokblgdgpnakpaaGreat.fnWorldFrames
namespace Go.Proofs.YtokblgdgpnakpaaGreat
theorem fnWorldFrames_holds:Rows.FnWorldFramesSaid:=fnWorldFrames.proved
end Go.Proofs.YtokblgdgpnakpaaGreat
end
