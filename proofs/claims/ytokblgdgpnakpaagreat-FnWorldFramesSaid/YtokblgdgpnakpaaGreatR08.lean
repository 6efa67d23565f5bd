/- FnWorldFrames holds: part 8 of a proof that the given program meets it (printed texts and walks of our own, made short by a program). No condition. -/
import Derived.Test.YtokblgdgpnakpaaGreatR07
set_option linter.unusedVariables false
set_option linter.unusedSimpArgs false
set_option maxHeartbeats 8000000
set_option maxRecDepth 100000
namespace Go.Proofs.YtokblgdgpnakpaaGreat.PFnEndLess
open Go.RowKit Go.Proofs.YtokblgdgpnakpaaGreatW.PrintWords Go.Proofs.YtokblgdgpnakpaaGreatW.PrintLast Go.Proofs.YtokblgdgpnakpaaGreatW.PrintMore Go.Proofs.YtokblgdgpnakpaaGreat.Lm
open Go.Proofs.YtokblgdgpnakpaaGreat.Pure
attribute [local go_sem] bA bn bV bW aW aV bE bF
def oI.T4:Bool×List (List Nat×List Nat):=(true,[([],[]),([0],[0]),([],[]),([1,2],[1,2]),([3],[3]),([4],[4]),([5],[5]),([6,5],[6]),([7],[7]),([8,7],[7,8]),([9,7,7],[7,9]),([10],[10]),([11,10],[10,11]),([10],[10]),([13,10],[10,13]),([12,14,10],[10,12,14]),([15,10],[10,15]),([16,10],[10,16]),([10],[10]),([18,10],[10,18]),([10],[10]),([19,20,10],[10,19,20]),([21,10],[10,21]),([22,10],[10,22]),([17,23,10],[10,17,23]),([10,24,7],[7,10,24]),([7,25],[7,25]),([26,10],[26]),([27],[27]),([28,27],[27,28]),([29,27],[27,29]),([30,27,27],[27,30]),([31],[31]),([32,31],[31,32]),([31],[31]),([33,34,31],[31,33,34]),([35,31],[31,35]),([36,31],[31,36]),([31],[31]),([38,31],[31,38]),([39,31],[31,39]),([37,40,31],[31,37,40]),([31,41,27],[27,31,41]),([27,42],[27,42])])
def oI.B4:List Nat:=[0,1,0,7,15,31,63,127,255,511,1023,2047,4095,2047,10239,32767,65535,131071,2047,264191,2047,1837055,3934207,8128511,16777215,33554431,67108863,134217727,268435455,536870911,1073741823,2147483647,4294967295,8589934591,4294967295,34359738367,68719476735,137438953471,4294967295,279172874239,828928688127,2199023255551,4398046511103,8796093022207]
theorem oI.tab4:jG .any (opsOf Tryz.f10 4)=oI.T4:=by kernel_rfl
theorem oI.bits4:fQ oI.T4.2 oI.B4=true:=by kernel_rfl
theorem mH{w:World}{v1 v3 v6 v9:Value}{l1 l3:List bf}{l6:List uF}{l9:List jS}{x0 x10 r:Bool}{x2 x4 x7 x8:Int}{x5:ByteArray}(hE:I6 w v1 l1 v3 l3 v6 l6 v9 l9)(hs:SmE l1 l3 x5 l6 l9)(hr:vG x0 l1 x2 l3 x4 x5 l6 x7 x8 l9=r):Calls Tryz.prog 10 #[.agg (eC x0 v1 x2 v3 x4 x5 v6 x7 x8 v9 x10).toArray] w fun e w'=>e= .returned (.bool r)∧Below w.heap.size w w':=by
 obtain⟨b,hbe⟩:∃b,b=w.heap.size:=⟨_,rfl⟩
 have hw:TW b rE w:=.none _ _
 obtain⟨A1,c1,e_,_⟩:=hE.r1
 subst e_
 obtain⟨A3,c3,e_,_⟩:=hE.r3
 subst e_
 obtain⟨A6,c6,e_,aGs,C6,ai9⟩:=hE.r6
 subst e_
 have aGt:=C6.2.1
 clear C6
 obtain⟨A9,c9,e_,aGu,C9,aqJ⟩:=hE.r9
 subst e_
 have aGv:=C9.2.1
 clear C9
 obtain⟨tk1,H6⟩:∃t,ah (eO l1 x2=t):=⟨_,⟨rfl⟩⟩
 obtain⟨tk3,LH⟩:∃t,ah (eO l3 x4=t):=⟨_,⟨rfl⟩⟩
 obtain⟨fl,hfl⟩:∃t,ah (qc x7 x8=t):=⟨_,⟨rfl⟩⟩
 obtain⟨nP,sZ,LJ,⟨aGw,H7⟩,aGx,_⟩:=hs
 have HW:ah (LW b NX rE w [] (fun _ _=>True) rE w):=⟨LW.start hw trivial (Mon.top _)⟩
 clear hw
 go_enter Tryz.func10,Tryz.ntmps10
 have hI0:LI x0 l6 (wP l1 x2 l3 x4 x5 x7 x8 l9) r 0:=hr.symm
 go_wp2_with (first|((with_reducible refine gd 1 rfl ?_);refine lbx (N:=1) (t:=31) HW (eC x0 (.slice A1 l1.length c1) x2 (.slice A3 l3.length c3) x4 x5 (.slice A6 l6.length c6) x7 x8 (.slice A9 l9.length c9) x10) ?_;clear HW;intro g1 pJ HW))
 go_loopg [3] (l6.length) (fun kq y3 wq=>∃(Mq:Nat→Nat→Prop)(iq:Int),(y3= .int .i64 iq)∧ah (0≤iq∧iq≤(l6.length:Int)∧l6.length-iq.toNat≤kq∧LI x0 l6 (wP l1 x2 l3 x4 x5 x7 x8 l9) r iq)∧ah (LW b NX rE w [⟨g1,eC x0 (.slice A1 l1.length c1) x2 (.slice A3 l3.length c3) x4 x5 (.slice A6 l6.length c6) x7 x8 (.slice A9 l9.length c9) x10,31⟩] (fun _ _=>True) Mq wq))
 case atStart=>exact⟨_,_,rfl,⟨⟨(by omega),(by omega),(by simp),hI0⟩⟩,⟨LW.less HW.out trivial (Mon.top _)⟩⟩
 case round=>
  clear HW
  obtain⟨Mq,iq,rfl,HI,HC⟩:=hrel
  have HW:=HC
  clear HC
  obtain⟨aaU,aaV,aaW,LK⟩:=HI.out
  have hI:=LK
  go_upto_if 9 with(first|((with_reducible refine gd 7 rfl ?_);refine lls HW 0 6 _ Tryz.underlying26 ?_))
  by_cases LM:iq<(l6.length:Int)
  ·skip
   have WO:=decide_eq_true LM
   go_upto_region 4 with(fail)
   obtain⟨k6,ek_⟩:=ai9 (by omega)
   subst ek_
   obtain⟨p_e,A2_e,d2_e,A7_e,d7_e,tq,wT,uz,q2_e,C2_e,q7_e,C7_e⟩:=hE.el39 (i:=iq) (by omega) (by omega)
   obtain⟨t_,gT⟩:∃t,ah ((uq p_e.f0&&lD p_e)=t):=⟨_,⟨rfl⟩⟩
   have YA:=eq_true (show(0:Int)≤iq by omega)
   have YB:=eq_true (show iq<(l6.length:Int) by omega)
   have tu:ah (wrap64 (wrap64 (2*iq)+1)=2*iq+1):=⟨by rw[dL (2*iq) (by omega) (by omega),dL _ (by omega) (by omega)]⟩
   go_upto_region 4 with(fail)
   cases t_ with
   |true=>
    by_cases c105:iq>0
    ·skip
     have Jo:=decide_eq_true c105
     have H8:ah (wrap64 (iq-1)=iq-1):=⟨dL _ (by omega) (by omega)⟩
     have pj_:=eq_true (show(0:Int)≤wrap64 (iq-1) by have h_:=H8.out;omega)
     have qj_:=eq_true (show wrap64 (iq-1)<(l6.length:Int) by have h_:=H8.out;omega)
     obtain⟨p_y,A2_y,d2_y,A7_y,d7_y,hp_y,hpm_y,hre_y,q2_y,C2_y,q7_y,C7_y⟩:=hE.el39 (i:=wrap64 (iq-1)) (by have h_:=H8.out;omega) (by have h_:=H8.out;omega)
     have tF:fV l6 (iq-1)=p_y:=by rw[←H8.out];exact hp_y
     by_cases zy:p_y.f0≥p_e.f0
     ·skip
      have Ql:=decide_eq_true zy
      refine mY HW (fun W=>Below w.heap.size w W) [] 44 ((HW.out.drew.underN hbe (Below.refl _ _) (.none _ _))) (fun zl HN hHeld=>?_)
      replace HW:=HN
      clear HN
      refine bK oI.tab4 oI.bits4 (fun HT_ HW_=>?_)
      refine pw 0 ?_
      refine tk 1 (some 13) (bm 44 3) rfl rfl hHeld ?_ (hy:=kG _ 0 6 _ Tryz.underlying26)
      refine pw 2 ?_
      refine pw 3 ?_
      refine tk 4 (some 16) (bm 44 31) rfl rfl hHeld ?_ (hy:=yrw (sC p_e.f0 p_e.f1 (.slice A2_e p_e.f2.length d2_e) p_e.f3 p_e.f4 p_e.f5 p_e.f6 (.slice A7_e p_e.f7.length d7_e) p_e.f8 p_e.f9 p_e.f10.f0 p_e.f10.f1) (fun W h=>fo uz h) Tryz.underlying39)
      refine on 5 (bm 44 63) fun K hK=>?_
      refine gs Tryz.func28 #[(.agg (sC _ _ _ _ _ _ _ _ _ _ _ _).toArray)] ?_
      with_reducible refine(xX q2_e (Kd.C_below C2_e (HW.out.underN hbe (Below.refl _ _) (.none _ _))) q7_e (Kd.C_below C7_e (HW.out.underN hbe (Below.refl _ _) (.none _ _))) (H7 _ wT) gT.out).mono ?_
      rintro e Cs ⟨rfl,hb⟩
      refine⟨_,rfl,?_⟩
      replace HW:=ah.mk (HW.out.quiet hb)
      clear hb
      refine hK.out _ _ ⟨HW.out.bxs,(HW.out.underN hbe (Below.refl _ _) (.none _ _))⟩ (fun hHeld=>?_)
      clear hK K
      refine nm ?_
      refine pw 6 ?_
      refine pw 7 ?_
      refine pw 8 ?_
      refine pw 9 ?_
      refine pw 10 ?_
      refine pw 11 ?_
      refine tk 12 (some 24) (bm 44 8191) rfl rfl hHeld ?_ (hy:=kG _ 0 6 _ Tryz.underlying26)
      refine pw 13 ?_
      refine pw 14 ?_
      refine pw 15 ?_
      refine pw 16 ?_
      refine tk 17 (some 29) (bm 44 262143) rfl rfl hHeld ?_ (hy:=DK (.int .i64 p_y.f0) (fun W h=>((fun W h=>fo hre_y h)) W h 0 _ rfl) Tryz.underlying3)
      refine pw 18 ?_
      refine tk 19 (some 31) (bm 44 1048575) rfl rfl hHeld ?_ (hy:=kG _ 0 6 _ Tryz.underlying26)
      refine pw 20 ?_
      refine pw 21 ?_
      refine pw 22 ?_
      refine tk 23 (some 35) (bm 44 16777215) rfl rfl hHeld ?_ (hy:=DK (.int .i64 p_e.f0) (fun W h=>((fun W h=>fo uz h)) W h 0 _ rfl) Tryz.underlying3)
      refine pw 24 ?_
      refine pw 25 ?_
      refine pw 26 ?_
      refine pw 27 ?_
      refine pn 28 ?_
      refine pn 29 ?_
      refine pn 30 ?_
      refine pn 31 ?_
      refine pn 32 ?_
      refine pn 33 ?_
      refine pn 34 ?_
      refine pn 35 ?_
      refine pn 36 ?_
      refine pn 37 ?_
      refine pn 38 ?_
      refine pn 39 ?_
      refine pn 40 ?_
      refine pn 41 ?_
      refine pn 42 ?_
      refine pw 43 ?_
      refine dn ?_
      clear HT_ HW_
      go_wp2_with (fail)
      go_ret
      exact⟨by rw[hI.no (by omega) (by omega) tq (by first|exact .inl gT.out|exact .inr (.inl ⟨by omega,by rw[tF];omega⟩)|exact .inr (.inr ⟨rfl,by have h_:=tu.out;omega⟩))]<;>rfl,(HW.out.underN hbe (Below.refl _ _) (.none _ _))⟩
     ·skip
      have Ql:=decide_eq_false zy
      cases x0 with
      |true=>
       refine mY HW (fun W=>Below w.heap.size w W) [] 44 ((HW.out.drew.underN hbe (Below.refl _ _) (.none _ _))) (fun Cw HN hHeld=>?_)
       replace HW:=HN
       clear HN
       refine bK oI.tab4 oI.bits4 (fun HT_ HW_=>?_)
       refine pw 0 ?_
       refine tk 1 (some 13) (bm 44 3) rfl rfl hHeld ?_ (hy:=kG _ 0 6 _ Tryz.underlying26)
       refine pw 2 ?_
       refine pw 3 ?_
       refine tk 4 (some 16) (bm 44 31) rfl rfl hHeld ?_ (hy:=yrw (sC p_e.f0 p_e.f1 (.slice A2_e p_e.f2.length d2_e) p_e.f3 p_e.f4 p_e.f5 p_e.f6 (.slice A7_e p_e.f7.length d7_e) p_e.f8 p_e.f9 p_e.f10.f0 p_e.f10.f1) (fun W h=>fo uz h) Tryz.underlying39)
       refine on 5 (bm 44 63) fun K hK=>?_
       refine gs Tryz.func28 #[(.agg (sC _ _ _ _ _ _ _ _ _ _ _ _).toArray)] ?_
       with_reducible refine(xX q2_e (Kd.C_below C2_e (HW.out.underN hbe (Below.refl _ _) (.none _ _))) q7_e (Kd.C_below C7_e (HW.out.underN hbe (Below.refl _ _) (.none _ _))) (H7 _ wT) gT.out).mono ?_
       rintro e GU ⟨rfl,hb⟩
       refine⟨_,rfl,?_⟩
       replace HW:=ah.mk (HW.out.quiet hb)
       clear hb
       refine hK.out _ _ ⟨HW.out.bxs,(HW.out.underN hbe (Below.refl _ _) (.none _ _))⟩ (fun hHeld=>?_)
       clear hK K
       refine nm ?_
       refine pw 6 ?_
       refine pw 7 ?_
       refine pw 8 ?_
       refine pw 9 ?_
       refine pw 10 ?_
       refine pw 11 ?_
       refine tk 12 (some 24) (bm 44 8191) rfl rfl hHeld ?_ (hy:=kG _ 0 6 _ Tryz.underlying26)
       refine pw 13 ?_
       refine pw 14 ?_
       refine pw 15 ?_
       refine pw 16 ?_
       refine tk 17 (some 29) (bm 44 262143) rfl rfl hHeld ?_ (hy:=DK (.int .i64 p_y.f0) (fun W h=>((fun W h=>fo hre_y h)) W h 0 _ rfl) Tryz.underlying3)
       refine pw 18 ?_
       refine tk 19 (some 31) (bm 44 1048575) rfl rfl hHeld ?_ (hy:=kG _ 0 6 _ Tryz.underlying26)
       refine pw 20 ?_
       refine pw 21 ?_
       refine pw 22 ?_
       refine tk 23 (some 35) (bm 44 16777215) rfl rfl hHeld ?_ (hy:=DK (.int .i64 p_e.f0) (fun W h=>((fun W h=>fo uz h)) W h 0 _ rfl) Tryz.underlying3)
       refine pw 24 ?_
       refine pw 25 ?_
       refine pw 26 ?_
       refine pw 27 ?_
       refine pw 28 ?_
       refine tk 29 (some 41) (bm 44 1073741823) rfl rfl hHeld ?_ (hy:=kG _ 0 0 _ Tryz.underlying4)
       refine pw 30 ?_
       refine pw 31 ?_
       refine pn 32 ?_
       refine pn 33 ?_
       refine pn 34 ?_
       refine pn 35 ?_
       refine pn 36 ?_
       refine pn 37 ?_
       refine pn 38 ?_
       refine pn 39 ?_
       refine pn 40 ?_
       refine pn 41 ?_
       refine pw 42 ?_
       refine pw 43 ?_
       refine dn ?_
       clear HT_ HW_
       go_wp2_with (fail)
       go_roundg (l6.length-(iq+1).toNat)
       case measure=>omega
       case rel=>exact⟨_,_,rfl,⟨⟨(by omega),(by omega),(by omega),(hI.yes (by omega) (by omega) tq gT.out (by first|exact .inl (by omega)|exact .inr (by rw[tF];omega)) (by first|exact .inl rfl|exact .inr (by have h_:=tu.out;have g_:ah (p_e.f0=wrap64 (wrap64 (2*iq)+1)):=(by assumption);have g2_:=g_.out;omega)))⟩⟩,⟨LW.less HW.out trivial (Mon.top _)⟩⟩
      |false=>
       refine mY HW (fun W=>Below w.heap.size w W) [] 44 ((HW.out.drew.underN hbe (Below.refl _ _) (.none _ _))) (fun Ef HN hHeld=>?_)
       replace HW:=HN
       clear HN
       refine bK oI.tab4 oI.bits4 (fun HT_ HW_=>?_)
       refine pw 0 ?_
       refine tk 1 (some 13) (bm 44 3) rfl rfl hHeld ?_ (hy:=kG _ 0 6 _ Tryz.underlying26)
       refine pw 2 ?_
       refine pw 3 ?_
       refine tk 4 (some 16) (bm 44 31) rfl rfl hHeld ?_ (hy:=yrw (sC p_e.f0 p_e.f1 (.slice A2_e p_e.f2.length d2_e) p_e.f3 p_e.f4 p_e.f5 p_e.f6 (.slice A7_e p_e.f7.length d7_e) p_e.f8 p_e.f9 p_e.f10.f0 p_e.f10.f1) (fun W h=>fo uz h) Tryz.underlying39)
       refine on 5 (bm 44 63) fun K hK=>?_
       refine gs Tryz.func28 #[(.agg (sC _ _ _ _ _ _ _ _ _ _ _ _).toArray)] ?_
       with_reducible refine(xX q2_e (Kd.C_below C2_e (HW.out.underN hbe (Below.refl _ _) (.none _ _))) q7_e (Kd.C_below C7_e (HW.out.underN hbe (Below.refl _ _) (.none _ _))) (H7 _ wT) gT.out).mono ?_
       rintro e zx ⟨rfl,hb⟩
       refine⟨_,rfl,?_⟩
       replace HW:=ah.mk (HW.out.quiet hb)
       clear hb
       refine hK.out _ _ ⟨HW.out.bxs,(HW.out.underN hbe (Below.refl _ _) (.none _ _))⟩ (fun hHeld=>?_)
       clear hK K
       refine nm ?_
       refine pw 6 ?_
       refine pw 7 ?_
       refine pw 8 ?_
       refine pw 9 ?_
       refine pw 10 ?_
       refine pw 11 ?_
       refine tk 12 (some 24) (bm 44 8191) rfl rfl hHeld ?_ (hy:=kG _ 0 6 _ Tryz.underlying26)
       refine pw 13 ?_
       refine pw 14 ?_
       refine pw 15 ?_
       refine pw 16 ?_
       refine tk 17 (some 29) (bm 44 262143) rfl rfl hHeld ?_ (hy:=DK (.int .i64 p_y.f0) (fun W h=>((fun W h=>fo hre_y h)) W h 0 _ rfl) Tryz.underlying3)
       refine pw 18 ?_
       refine tk 19 (some 31) (bm 44 1048575) rfl rfl hHeld ?_ (hy:=kG _ 0 6 _ Tryz.underlying26)
       refine pw 20 ?_
       refine pw 21 ?_
       refine pw 22 ?_
       refine tk 23 (some 35) (bm 44 16777215) rfl rfl hHeld ?_ (hy:=DK (.int .i64 p_e.f0) (fun W h=>((fun W h=>fo uz h)) W h 0 _ rfl) Tryz.underlying3)
       refine pw 24 ?_
       refine pw 25 ?_
       refine pw 26 ?_
       refine pw 27 ?_
       refine pw 28 ?_
       refine tk 29 (some 41) (bm 44 1073741823) rfl rfl hHeld ?_ (hy:=kG _ 0 0 _ Tryz.underlying4)
       refine pw 30 ?_
       refine pw 31 ?_
       refine pw 32 ?_
       refine tk 33 (some 45) (bm 44 17179869183) rfl rfl hHeld ?_ (hy:=kG _ 0 6 _ Tryz.underlying26)
       refine pw 34 ?_
       refine pw 35 ?_
       refine pw 36 ?_
       refine tk 37 (some 49) (bm 44 274877906943) rfl rfl hHeld ?_ (hy:=DK (.int .i64 p_e.f0) (fun W h=>((fun W h=>fo uz h)) W h 0 _ rfl) Tryz.underlying3)
       refine pw 38 ?_
       refine pw 39 ?_
       refine pw 40 ?_
       refine pw 41 ?_
       refine pw 42 ?_
       refine pw 43 ?_
       refine dn ?_
       clear HT_ HW_
       go_upto_if 55 with(fail)
       by_cases Cy:p_e.f0=wrap64 ((wrap64 (2*iq))+1)
       ·skip
        have WR:(p_e.f0==(wrap64 ((wrap64 (2*iq))+1)))=true:=beq_iff_eq.mpr Cy
        have adV:(p_e.f0 != (wrap64 ((wrap64 (2*iq))+1)))=false:=bne_eq_false_iff_eq.mpr Cy
        have aPD:=ah.mk Cy
        clear Cy
        go_wp2_with (fail)
        go_roundg (l6.length-(iq+1).toNat)
        case measure=>omega
        case rel=>exact⟨_,_,rfl,⟨⟨(by omega),(by omega),(by omega),(hI.yes (by omega) (by omega) tq gT.out (by first|exact .inl (by omega)|exact .inr (by rw[tF];omega)) (by first|exact .inl rfl|exact .inr (by have h_:=tu.out;have g_:ah (p_e.f0=wrap64 (wrap64 (2*iq)+1)):=(by assumption);have g2_:=g_.out;omega)))⟩⟩,⟨LW.less HW.out trivial (Mon.top _)⟩⟩
       ·skip
        have WR:(p_e.f0==(wrap64 ((wrap64 (2*iq))+1)))=false:=beq_eq_false_iff_ne.mpr Cy
        have adV:(p_e.f0 != (wrap64 ((wrap64 (2*iq))+1)))=true:=bne_iff_ne.mpr Cy
        go_wp2_with (fail)
        go_ret
        exact⟨by rw[hI.no (by omega) (by omega) tq (by first|exact .inl gT.out|exact .inr (.inl ⟨by omega,by rw[tF];omega⟩)|exact .inr (.inr ⟨rfl,by have h_:=tu.out;omega⟩))]<;>rfl,(HW.out.underN hbe (Below.refl _ _) (.none _ _))⟩
    ·skip
     have Jo:=decide_eq_false c105
     cases x0 with
     |true=>
      refine mY HW (fun W=>Below w.heap.size w W) [] 44 ((HW.out.drew.underN hbe (Below.refl _ _) (.none _ _))) (fun yh HN hHeld=>?_)
      replace HW:=HN
      clear HN
      refine bK oI.tab4 oI.bits4 (fun HT_ HW_=>?_)
      refine pw 0 ?_
      refine tk 1 (some 13) (bm 44 3) rfl rfl hHeld ?_ (hy:=kG _ 0 6 _ Tryz.underlying26)
      refine pw 2 ?_
      refine pw 3 ?_
      refine tk 4 (some 16) (bm 44 31) rfl rfl hHeld ?_ (hy:=yrw (sC p_e.f0 p_e.f1 (.slice A2_e p_e.f2.length d2_e) p_e.f3 p_e.f4 p_e.f5 p_e.f6 (.slice A7_e p_e.f7.length d7_e) p_e.f8 p_e.f9 p_e.f10.f0 p_e.f10.f1) (fun W h=>fo uz h) Tryz.underlying39)
      refine on 5 (bm 44 63) fun K hK=>?_
      refine gs Tryz.func28 #[(.agg (sC _ _ _ _ _ _ _ _ _ _ _ _).toArray)] ?_
      with_reducible refine(xX q2_e (Kd.C_below C2_e (HW.out.underN hbe (Below.refl _ _) (.none _ _))) q7_e (Kd.C_below C7_e (HW.out.underN hbe (Below.refl _ _) (.none _ _))) (H7 _ wT) gT.out).mono ?_
      rintro e zo ⟨rfl,hb⟩
      refine⟨_,rfl,?_⟩
      replace HW:=ah.mk (HW.out.quiet hb)
      clear hb
      refine hK.out _ _ ⟨HW.out.bxs,(HW.out.underN hbe (Below.refl _ _) (.none _ _))⟩ (fun hHeld=>?_)
      clear hK K
      refine nm ?_
      refine pw 6 ?_
      refine pw 7 ?_
      refine pw 8 ?_
      refine pw 9 ?_
      refine pw 10 ?_
      refine pn 11 ?_
      refine pn 12 ?_
      refine pn 13 ?_
      refine pn 14 ?_
      refine pn 15 ?_
      refine pn 16 ?_
      refine pn 17 ?_
      refine pn 18 ?_
      refine pn 19 ?_
      refine pn 20 ?_
      refine pn 21 ?_
      refine pn 22 ?_
      refine pn 23 ?_
      refine pn 24 ?_
      refine pw 25 ?_
      refine pw 26 ?_
      refine pw 27 ?_
      refine pw 28 ?_
      refine tk 29 (some 41) (bm 44 1073741823) rfl rfl hHeld ?_ (hy:=kG _ 0 0 _ Tryz.underlying4)
      refine pw 30 ?_
      refine pw 31 ?_
      refine pn 32 ?_
      refine pn 33 ?_
      refine pn 34 ?_
      refine pn 35 ?_
      refine pn 36 ?_
      refine pn 37 ?_
      refine pn 38 ?_
      refine pn 39 ?_
      refine pn 40 ?_
      refine pn 41 ?_
      refine pw 42 ?_
      refine pw 43 ?_
      refine dn ?_
      clear HT_ HW_
      go_wp2_with (fail)
      go_roundg (l6.length-(iq+1).toNat)
      case measure=>omega
      case rel=>exact⟨_,_,rfl,⟨⟨(by omega),(by omega),(by omega),(hI.yes (by omega) (by omega) tq gT.out (by first|exact .inl (by omega)|exact .inr (by rw[tF];omega)) (by first|exact .inl rfl|exact .inr (by have h_:=tu.out;have g_:ah (p_e.f0=wrap64 (wrap64 (2*iq)+1)):=(by assumption);have g2_:=g_.out;omega)))⟩⟩,⟨LW.less HW.out trivial (Mon.top _)⟩⟩
     |false=>
      refine mY HW (fun W=>Below w.heap.size w W) [] 44 ((HW.out.drew.underN hbe (Below.refl _ _) (.none _ _))) (fun vP HN hHeld=>?_)
      replace HW:=HN
      clear HN
      refine bK oI.tab4 oI.bits4 (fun HT_ HW_=>?_)
      refine pw 0 ?_
      refine tk 1 (some 13) (bm 44 3) rfl rfl hHeld ?_ (hy:=kG _ 0 6 _ Tryz.underlying26)
      refine pw 2 ?_
      refine pw 3 ?_
      refine tk 4 (some 16) (bm 44 31) rfl rfl hHeld ?_ (hy:=yrw (sC p_e.f0 p_e.f1 (.slice A2_e p_e.f2.length d2_e) p_e.f3 p_e.f4 p_e.f5 p_e.f6 (.slice A7_e p_e.f7.length d7_e) p_e.f8 p_e.f9 p_e.f10.f0 p_e.f10.f1) (fun W h=>fo uz h) Tryz.underlying39)
      refine on 5 (bm 44 63) fun K hK=>?_
      refine gs Tryz.func28 #[(.agg (sC _ _ _ _ _ _ _ _ _ _ _ _).toArray)] ?_
      with_reducible refine(xX q2_e (Kd.C_below C2_e (HW.out.underN hbe (Below.refl _ _) (.none _ _))) q7_e (Kd.C_below C7_e (HW.out.underN hbe (Below.refl _ _) (.none _ _))) (H7 _ wT) gT.out).mono ?_
      rintro e uZ ⟨rfl,hb⟩
      refine⟨_,rfl,?_⟩
      replace HW:=ah.mk (HW.out.quiet hb)
      clear hb
      refine hK.out _ _ ⟨HW.out.bxs,(HW.out.underN hbe (Below.refl _ _) (.none _ _))⟩ (fun hHeld=>?_)
      clear hK K
      refine nm ?_
      refine pw 6 ?_
      refine pw 7 ?_
      refine pw 8 ?_
      refine pw 9 ?_
      refine pw 10 ?_
      refine pn 11 ?_
      refine pn 12 ?_
      refine pn 13 ?_
      refine pn 14 ?_
      refine pn 15 ?_
      refine pn 16 ?_
      refine pn 17 ?_
      refine pn 18 ?_
      refine pn 19 ?_
      refine pn 20 ?_
      refine pn 21 ?_
      refine pn 22 ?_
      refine pn 23 ?_
      refine pn 24 ?_
      refine pw 25 ?_
      refine pw 26 ?_
      refine pw 27 ?_
      refine pw 28 ?_
      refine tk 29 (some 41) (bm 44 1073741823) rfl rfl hHeld ?_ (hy:=kG _ 0 0 _ Tryz.underlying4)
      refine pw 30 ?_
      refine pw 31 ?_
      refine pw 32 ?_
      refine tk 33 (some 45) (bm 44 17179869183) rfl rfl hHeld ?_ (hy:=kG _ 0 6 _ Tryz.underlying26)
      refine pw 34 ?_
      refine pw 35 ?_
      refine pw 36 ?_
      refine tk 37 (some 49) (bm 44 274877906943) rfl rfl hHeld ?_ (hy:=DK (.int .i64 p_e.f0) (fun W h=>((fun W h=>fo uz h)) W h 0 _ rfl) Tryz.underlying3)
      refine pw 38 ?_
      refine pw 39 ?_
      refine pw 40 ?_
      refine pw 41 ?_
      refine pw 42 ?_
      refine pw 43 ?_
      refine dn ?_
      clear HT_ HW_
      go_upto_if 55 with(fail)
      by_cases sW:p_e.f0=wrap64 ((wrap64 (2*iq))+1)
      ·skip
       have Qf:(p_e.f0==(wrap64 ((wrap64 (2*iq))+1)))=true:=beq_iff_eq.mpr sW
       have Qg:(p_e.f0 != (wrap64 ((wrap64 (2*iq))+1)))=false:=bne_eq_false_iff_eq.mpr sW
       have ar5:=ah.mk sW
       clear sW
       go_wp2_with (fail)
       go_roundg (l6.length-(iq+1).toNat)
       case measure=>omega
       case rel=>exact⟨_,_,rfl,⟨⟨(by omega),(by omega),(by omega),(hI.yes (by omega) (by omega) tq gT.out (by first|exact .inl (by omega)|exact .inr (by rw[tF];omega)) (by first|exact .inl rfl|exact .inr (by have h_:=tu.out;have g_:ah (p_e.f0=wrap64 (wrap64 (2*iq)+1)):=(by assumption);have g2_:=g_.out;omega)))⟩⟩,⟨LW.less HW.out trivial (Mon.top _)⟩⟩
      ·skip
       have Qf:(p_e.f0==(wrap64 ((wrap64 (2*iq))+1)))=false:=beq_eq_false_iff_ne.mpr sW
       have Qg:(p_e.f0 != (wrap64 ((wrap64 (2*iq))+1)))=true:=bne_iff_ne.mpr sW
       go_wp2_with (fail)
       go_ret
       exact⟨by rw[hI.no (by omega) (by omega) tq (by first|exact .inl gT.out|exact .inr (.inl ⟨by omega,by rw[tF];omega⟩)|exact .inr (.inr ⟨rfl,by have h_:=tu.out;omega⟩))]<;>rfl,(HW.out.underN hbe (Below.refl _ _) (.none _ _))⟩
   |false=>
    refine mY HW (fun W=>Below w.heap.size w W) [] 44 ((HW.out.drew.underN hbe (Below.refl _ _) (.none _ _))) (fun zu HN hHeld=>?_)
    replace HW:=HN
    clear HN
    refine bK oI.tab4 oI.bits4 (fun HT_ HW_=>?_)
    refine pw 0 ?_
    refine tk 1 (some 13) (bm 44 3) rfl rfl hHeld ?_ (hy:=kG _ 0 6 _ Tryz.underlying26)
    refine pw 2 ?_
    refine pw 3 ?_
    refine tk 4 (some 16) (bm 44 31) rfl rfl hHeld ?_ (hy:=yrw (sC p_e.f0 p_e.f1 (.slice A2_e p_e.f2.length d2_e) p_e.f3 p_e.f4 p_e.f5 p_e.f6 (.slice A7_e p_e.f7.length d7_e) p_e.f8 p_e.f9 p_e.f10.f0 p_e.f10.f1) (fun W h=>fo uz h) Tryz.underlying39)
    refine on 5 (bm 44 63) fun K hK=>?_
    refine gs Tryz.func28 #[(.agg (sC _ _ _ _ _ _ _ _ _ _ _ _).toArray)] ?_
    with_reducible refine(xX q2_e (Kd.C_below C2_e (HW.out.underN hbe (Below.refl _ _) (.none _ _))) q7_e (Kd.C_below C7_e (HW.out.underN hbe (Below.refl _ _) (.none _ _))) (H7 _ wT) gT.out).mono ?_
    rintro e zw ⟨rfl,hb⟩
    refine⟨_,rfl,?_⟩
    replace HW:=ah.mk (HW.out.quiet hb)
    clear hb
    refine hK.out _ _ ⟨HW.out.bxs,(HW.out.underN hbe (Below.refl _ _) (.none _ _))⟩ (fun hHeld=>?_)
    clear hK K
    refine nm ?_
    refine pw 6 ?_
    refine pw 7 ?_
    refine pn 8 ?_
    refine pn 9 ?_
    refine pn 10 ?_
    refine pn 11 ?_
    refine pn 12 ?_
    refine pn 13 ?_
    refine pn 14 ?_
    refine pn 15 ?_
    refine pn 16 ?_
    refine pn 17 ?_
    refine pn 18 ?_
    refine pn 19 ?_
    refine pn 20 ?_
    refine pn 21 ?_
    refine pn 22 ?_
    refine pn 23 ?_
    refine pn 24 ?_
    refine pn 25 ?_
    refine pw 26 ?_
    refine pw 27 ?_
    refine pn 28 ?_
    refine pn 29 ?_
    refine pn 30 ?_
    refine pn 31 ?_
    refine pn 32 ?_
    refine pn 33 ?_
    refine pn 34 ?_
    refine pn 35 ?_
    refine pn 36 ?_
    refine pn 37 ?_
    refine pn 38 ?_
    refine pn 39 ?_
    refine pn 40 ?_
    refine pn 41 ?_
    refine pn 42 ?_
    refine pw 43 ?_
    refine dn ?_
    clear HT_ HW_
    go_wp2_with (fail)
    go_ret
    exact⟨by rw[hI.no (by omega) (by omega) tq (by first|exact .inl gT.out|exact .inr (.inl ⟨by omega,by rw[tF];omega⟩)|exact .inr (.inr ⟨rfl,by have h_:=tu.out;omega⟩))]<;>rfl,(HW.out.underN hbe (Below.refl _ _) (.none _ _))⟩
  ·skip
   have WO:=decide_eq_false LM
   go_upto_region 6 with(fail)
   have hF0:=FI.start (hI.done (by omega)) H6.out LH.out hfl.out
   go_wp2_with (fail)
   go_loopg [4] (l9.length) (fun kq y4 wq=>∃(Mq:Nat→Nat→Prop)(jq:Int),(y4= .int .i64 jq)∧ah (0≤jq∧jq≤(l9.length:Int)∧l9.length-jq.toNat≤kq∧FI l9 (decide ((l9.length:Int)≤60)&&(decide ((x5.size:Int)≤600)&&(tk1&&(tk3&&fl)))) r jq)∧ah (LW b NX rE w [⟨g1,eC x0 (.slice A1 l1.length c1) x2 (.slice A3 l3.length c3) x4 x5 (.slice A6 l6.length c6) x7 x8 (.slice A9 l9.length c9) x10,31⟩] (fun _ _=>True) Mq wq))
   case atStart=>exact⟨_,_,rfl,⟨⟨(by omega),(by omega),(by simp),hF0⟩⟩,⟨LW.less HW.out trivial (Mon.top _)⟩⟩
   case round=>
    clear HW
    obtain⟨Mq,jq,rfl,HI,HC⟩:=hrel
    have HW:=HC
    clear HC
    obtain⟨aAH,aAI,aAJ,ab8⟩:=HI.out
    have hF:=ab8
    go_upto_if 60 with(first|((with_reducible refine gd 58 rfl ?_);refine lls HW 0 9 _ Tryz.underlying29 ?_))
    by_cases c124:jq<(l9.length:Int)
    ·skip
     have a3G:=decide_eq_true c124
     go_upto_region 9 with(fail)
     obtain⟨k9,ek_⟩:=aqJ (by omega)
     subst ek_
     obtain⟨p_f,ar6,aPE,aHy⟩:=hE.el42 (i:=jq) (by omega) (by omega)
     obtain⟨tf,aiQ⟩:∃t,ah (iR p_f=t):=⟨_,⟨rfl⟩⟩
     have YA:=eq_true (show(0:Int)≤jq by omega)
     have YB:=eq_true (show jq<(l9.length:Int) by omega)
     go_upto_if 69 with(first|((with_reducible refine gd 64 rfl ?_);refine lls HW 0 9 _ Tryz.underlying29 ?_)|((with_reducible refine gd 67 rfl ?_);refine lrw (cs:=fC p_f.f0 p_f.f1 p_f.f2 p_f.f3) (fo aHy (HW.out.underN hbe (Below.refl _ _) (.none _ _))) Tryz.underlying42 ?_)|((with_reducible refine gq 29 rfl ?_);refine gl (some 68) Tryz.func29 #[(.agg (fC _ _ _ _).toArray)] ?_;with_reducible refine(aaf aiQ.out).mono ?_;rintro e GJ ⟨rfl,hb⟩;refine⟨_,rfl,?_⟩;replace HW:=ah.mk (HW.out.quiet hb);clear hb))
     cases tf with
     |true=>
      go_wp2_with (fail)
      go_roundg (l9.length-(jq+1).toNat)
      case measure=>omega
      case rel=>exact⟨_,_,rfl,⟨⟨(by omega),(by omega),(by omega),(hF.yes (by omega) (by omega) ar6 aiQ.out)⟩⟩,⟨LW.less HW.out trivial (Mon.top _)⟩⟩
     |false=>
      go_wp2_with (fail)
      go_ret
      exact⟨by rw[hF.no (by omega) (by omega) ar6 aiQ.out]<;>rfl,(HW.out.underN hbe (Below.refl _ _) (.none _ _))⟩
    ·skip
     have a3G:=decide_eq_false c124
     go_upto_region 11 with(fail)
     have hFd_:=hF.done (by omega)
     cases tk1 with
     |true=>
      cases tk3 with
      |true=>
       cases fl with
       |true=>
        by_cases c139:(x5.size:Int)≤600
        ·skip
         have a2K:=decide_eq_true c139
         go_wp2_with (first|((with_reducible refine gd 71 rfl ?_);refine qi HW 0 1 (tC _ _) Tryz.underlying25 ?_)|((with_reducible refine gq 30 rfl ?_);refine gl (some 72) Tryz.func30 #[(.agg (tC _ _).toArray)] ?_;with_reducible refine(qx (hE.below (HW.out.underN hbe (Below.refl _ _) (.none _ _))).r1 nP H6.out).mono ?_;rintro e ahv ⟨rfl,hb⟩;refine⟨_,rfl,?_⟩;replace HW:=ah.mk (HW.out.quiet hb);clear hb)|((with_reducible refine gd 75 rfl ?_);refine ay (by rfl) ?_;dsimp only;refine qi HW 0 3 (tC _ _) Tryz.underlying25 ?_)|(go_at_call 30;with_reducible refine(qx (hE.below (HW.out.underN hbe (Below.refl _ _) (.none _ _))).r3 sZ LH.out).mono ?_;rintro e aqG ⟨rfl,hb⟩;replace HW:=ah.mk (HW.out.quiet hb);clear hb)|((with_reducible refine gd 80 rfl ?_);refine ay (by rfl) ?_;dsimp only;refine qi HW 0 7 (oC _ _) Tryz.underlying28 ?_)|(go_at_call 31;with_reducible refine(GI hfl.out).mono ?_;rintro e a2L ⟨rfl,hb⟩;replace HW:=ah.mk (HW.out.quiet hb);clear hb)|((with_reducible refine gd 85 rfl ?_);refine ay (by rfl) ?_;dsimp only;refine lls HW 0 5 _ Tryz.underlying9 ?_)|((with_reducible refine gd 91 rfl ?_);refine ay (by rfl) ?_;dsimp only;refine lls HW 0 9 _ Tryz.underlying29 ?_))
         go_ret
         exact⟨by first|rfl|(rw[hFd_];first|rfl|(simp;done)|(simp[*];done)|(simp[*];omega)),(HW.out.underN hbe (Below.refl _ _) (.none _ _))⟩
        ·skip
         have a2K:=decide_eq_false c139
         go_wp2_with (first|((with_reducible refine gd 71 rfl ?_);refine qi HW 0 1 (tC _ _) Tryz.underlying25 ?_)|((with_reducible refine gq 30 rfl ?_);refine gl (some 72) Tryz.func30 #[(.agg (tC _ _).toArray)] ?_;with_reducible refine(qx (hE.below (HW.out.underN hbe (Below.refl _ _) (.none _ _))).r1 nP H6.out).mono ?_;rintro e ahN ⟨rfl,hb⟩;refine⟨_,rfl,?_⟩;replace HW:=ah.mk (HW.out.quiet hb);clear hb)|((with_reducible refine gd 75 rfl ?_);refine ay (by rfl) ?_;dsimp only;refine qi HW 0 3 (tC _ _) Tryz.underlying25 ?_)|(go_at_call 30;with_reducible refine(qx (hE.below (HW.out.underN hbe (Below.refl _ _) (.none _ _))).r3 sZ LH.out).mono ?_;rintro e aaz ⟨rfl,hb⟩;replace HW:=ah.mk (HW.out.quiet hb);clear hb)|((with_reducible refine gd 80 rfl ?_);refine ay (by rfl) ?_;dsimp only;refine qi HW 0 7 (oC _ _) Tryz.underlying28 ?_)|(go_at_call 31;with_reducible refine(GI hfl.out).mono ?_;rintro e ahy ⟨rfl,hb⟩;replace HW:=ah.mk (HW.out.quiet hb);clear hb)|((with_reducible refine gd 85 rfl ?_);refine ay (by rfl) ?_;dsimp only;refine lls HW 0 5 _ Tryz.underlying9 ?_))
         go_ret
         exact⟨by first|rfl|(rw[hFd_];first|rfl|(simp;done)|(simp[*];done)|(simp[*];omega)),(HW.out.underN hbe (Below.refl _ _) (.none _ _))⟩
       |false=>
        go_wp2_with (first|((with_reducible refine gd 71 rfl ?_);refine qi HW 0 1 (tC _ _) Tryz.underlying25 ?_)|((with_reducible refine gq 30 rfl ?_);refine gl (some 72) Tryz.func30 #[(.agg (tC _ _).toArray)] ?_;with_reducible refine(qx (hE.below (HW.out.underN hbe (Below.refl _ _) (.none _ _))).r1 nP H6.out).mono ?_;rintro e aHz ⟨rfl,hb⟩;refine⟨_,rfl,?_⟩;replace HW:=ah.mk (HW.out.quiet hb);clear hb)|((with_reducible refine gd 75 rfl ?_);refine ay (by rfl) ?_;dsimp only;refine qi HW 0 3 (tC _ _) Tryz.underlying25 ?_)|(go_at_call 30;with_reducible refine(qx (hE.below (HW.out.underN hbe (Below.refl _ _) (.none _ _))).r3 sZ LH.out).mono ?_;rintro e ahz ⟨rfl,hb⟩;replace HW:=ah.mk (HW.out.quiet hb);clear hb)|((with_reducible refine gd 80 rfl ?_);refine ay (by rfl) ?_;dsimp only;refine qi HW 0 7 (oC _ _) Tryz.underlying28 ?_)|(go_at_call 31;with_reducible refine(GI hfl.out).mono ?_;rintro e aqI ⟨rfl,hb⟩;replace HW:=ah.mk (HW.out.quiet hb);clear hb))
        go_ret
        exact⟨by first|rfl|(rw[hFd_];first|rfl|(simp;done)|(simp[*];done)|(simp[*];omega)),(HW.out.underN hbe (Below.refl _ _) (.none _ _))⟩
      |false=>
       go_wp2_with (first|((with_reducible refine gd 71 rfl ?_);refine qi HW 0 1 (tC _ _) Tryz.underlying25 ?_)|((with_reducible refine gq 30 rfl ?_);refine gl (some 72) Tryz.func30 #[(.agg (tC _ _).toArray)] ?_;with_reducible refine(qx (hE.below (HW.out.underN hbe (Below.refl _ _) (.none _ _))).r1 nP H6.out).mono ?_;rintro e aaC ⟨rfl,hb⟩;refine⟨_,rfl,?_⟩;replace HW:=ah.mk (HW.out.quiet hb);clear hb)|((with_reducible refine gd 75 rfl ?_);refine ay (by rfl) ?_;dsimp only;refine qi HW 0 3 (tC _ _) Tryz.underlying25 ?_)|(go_at_call 30;with_reducible refine(qx (hE.below (HW.out.underN hbe (Below.refl _ _) (.none _ _))).r3 sZ LH.out).mono ?_;rintro e a2P ⟨rfl,hb⟩;replace HW:=ah.mk (HW.out.quiet hb);clear hb))
       go_ret
       exact⟨by first|rfl|(rw[hFd_];first|rfl|(simp;done)|(simp[*];done)|(simp[*];omega)),(HW.out.underN hbe (Below.refl _ _) (.none _ _))⟩
     |false=>
      go_wp2_with (first|((with_reducible refine gd 71 rfl ?_);refine qi HW 0 1 (tC _ _) Tryz.underlying25 ?_)|((with_reducible refine gq 30 rfl ?_);refine gl (some 72) Tryz.func30 #[(.agg (tC _ _).toArray)] ?_;with_reducible refine(qx (hE.below (HW.out.underN hbe (Below.refl _ _) (.none _ _))).r1 nP H6.out).mono ?_;rintro e Yj ⟨rfl,hb⟩;refine⟨_,rfl,?_⟩;replace HW:=ah.mk (HW.out.quiet hb);clear hb))
      go_ret
      exact⟨by first|rfl|(rw[hFd_];first|rfl|(simp;done)|(simp[*];done)|(simp[*];omega)),(HW.out.underN hbe (Below.refl _ _) (.none _ _))⟩
theorem aiR{x:uF}(h:SOk x):SmS x:=by
 obtain⟨h2,h7,_,_,h3,h8⟩:=h
 have s2:=uW h2
 have s7:=uW h7
 exact⟨⟨by omega,s2.2⟩,by omega,⟨by omega,s7.2⟩,by omega⟩
theorem a2x.out{w w':World}{N:Nat}{e:Ending}(h:a2x w N e w'):∃x0 v1 x2 v3 x4 x5 v6 x7 x8 v9 x10,e= .returned (.agg (eC x0 v1 x2 v3 x4 x5 v6 x7 x8 v9 x10).toArray)∧DR w.heap.size w' N v1 v3 x5 v6 v9∧Below w.heap.size w w':=h
theorem DR.rd{b N:Nat}{w:World}{v1 v3 v6 v9:Value}{x5:ByteArray}(h:DR b w N v1 v3 x5 v6 v9)(hN:N≤1000000):∃l1 l3 l6 l9,I6 w v1 l1 v3 l3 v6 l6 v9 l9∧SmE l1 l3 x5 l6 l9∧(0<l6.length→∃k c,v6= .slice (some ⟨k,0,none⟩) l6.length c)∧l6.length≤N:=by
 obtain⟨⟨l1,h1,d1,z1⟩,⟨l3,h3,d3,z3⟩,c5,⟨A6,c6,l6,e6,hc6,hN6,C6,o6,k6⟩,⟨A9,c9,l9,e9,hc9,hN9,C9,o9,k9⟩⟩:=h
 obtain⟨A1,c1,e1,q1,C1⟩:=h1.slice
 obtain⟨A3,c3,e3,q3,C3⟩:=h3.slice
 refine⟨l1,l3,l6,l9,⟨⟨A1,c1,e1,q1,C1⟩,⟨A3,c3,e3,q3,C3⟩,⟨A6,c6,e6,hc6,C6,k6⟩,⟨A9,c9,e9,hc9,C9,k9⟩⟩,⟨d1.small (by omega),d3.small (by omega),by omega,⟨by omega,fun x hx=>aiR (o6 x hx)⟩,by omega,fun x hx=>by have:=o9 x hx;omega⟩,fun h=>?_,hN6⟩
 obtain⟨k,rfl⟩:=k6 h
 exact⟨k,c6,e6⟩
section
variable {W w1:World} {v1 v3 v6 v9:Value} {l1 l3:List bf} {l6:List uF} {l9:List jS} {x0 x10 r:Bool} {x2 x4 x7 x8:Int} {x5:ByteArray}
theorem I6.take{A:Option Addr}{n c:Nat}(h:I6 w1 v1 l1 v3 l3 (.slice A n c) l6 v9 l9)(m:Nat)(hm:m≤l6.length):I6 w1 v1 l1 v3 l3 (.slice A m c) (l6.take m) (.slice none 0 0) []:=by
 obtain⟨r1,r3,⟨A6,c6,e6,h6,C6,k6⟩,r9⟩:=h
 injection e6 with e1 e2 e3
 subst e1 e3
 have hl:(l6.take m).length=m:=by rw[List.length_take];omega
 exact⟨r1,r3,⟨A,c,by rw[hl],by rw[hl];omega,Kd.C_take C6 hm,fun h=>k6 (by omega)⟩,⟨none,0,rfl,Nat.le_refl _,Kd.C_nil _ _,fun h=>absurd h (Nat.lt_irrefl _)⟩⟩
end
theorem a3H{w w1 w2:World}(h:Below w.heap.size w w1)(k:Below w1.heap.size w1 w2):Below w.heap.size w w2:=⟨k.os.trans h.os,k.tape.trans h.tape,k.output.trans h.output,Nat.le_trans h.size k.size,fun i hi=>(k.block i (Nat.lt_of_lt_of_le hi h.size)).trans (h.block i hi)⟩
theorem uE{w:World}{v1 v3 v6 v9 u1 u3 u6 u9:Value}{l1 l3 k1 k3:List bf}{l6 k6:List uF}{l9 k9:List jS}{x0 x10 y0 oH ex ey:Bool}{x2 x4 x7 x8 y2 y4 y7 y8:Int}{x5 y5 su sd:ByteArray}(hE:I6 w v1 l1 v3 l3 v6 l6 v9 l9)(hs:SmE l1 l3 x5 l6 l9)(hx:vG x0 l1 x2 l3 x4 x5 l6 x7 x8 l9=ex)(hF:I6 w u1 k1 u3 k3 u6 k6 u9 k9)(hs2:SmE k1 k3 y5 k6 k9)(hy:vG y0 k1 y2 k3 y4 y5 k6 y7 y8 k9=ey){r:Bool}(hr:(ex&&(ey&&(!x0&&(y0&&(decide ((su.size:Int)≤800)&&decide ((sd.size:Int)≤800))))))=r):Calls Tryz.prog 18 #[.agg (wC x0 v1 x2 v3 x4 x5 v6 x7 x8 v9 x10 y0 u1 y2 u3 y4 y5 u6 y7 y8 u9 oH su sd).toArray] w fun e w'=>e= .returned (.bool r)∧Below w.heap.size w w':=by
 subst hr
 obtain⟨b,hbe⟩:∃b,b=w.heap.size:=⟨_,rfl⟩
 have hw:TW b rE w:=.none _ _
 obtain⟨A1,c1,e_,_⟩:=hE.r1
 subst e_
 obtain⟨A3,c3,e_,_⟩:=hE.r3
 subst e_
 obtain⟨A6,c6,e_,_⟩:=hE.r6
 subst e_
 obtain⟨A9,c9,e_,_⟩:=hE.r9
 subst e_
 obtain⟨B1,d1,e_,_⟩:=hF.r1
 subst e_
 obtain⟨B3,d3,e_,_⟩:=hF.r3
 subst e_
 obtain⟨B6,d6,e_,_⟩:=hF.r6
 subst e_
 obtain⟨B9,d9,e_,_⟩:=hF.r9
 subst e_
 have hX:=ah.mk hx
 have hY:=ah.mk hy
 clear hx hy
 have HW:ah (LW b NX rE w [] (fun _ _=>True) rE w):=⟨LW.start hw trivial (Mon.top _)⟩
 clear hw
 go_enter Tryz.func18,Tryz.ntmps18
 go_upto_region 1 with(first|((with_reducible refine gd 1 rfl ?_);refine lbx (N:=1) (t:=47) HW (wC x0 (.slice A1 l1.length c1) x2 (.slice A3 l3.length c3) x4 x5 (.slice A6 l6.length c6) x7 x8 (.slice A9 l9.length c9) x10 y0 (.slice B1 k1.length d1) y2 (.slice B3 k3.length d3) y4 y5 (.slice B6 k6.length d6) y7 y8 (.slice B9 k9.length d9) oH su sd) ?_;clear HW;intro g1 pJ HW))
 cases ex with
 |true=>
  cases ey with
  |true=>
   cases x0 with
   |true=>
    go_wp2_with (first|((with_reducible refine gd 4 rfl ?_);refine lE HW 0 0 ?_)|((with_reducible refine gq 10 rfl ?_);refine gl (some 5) Tryz.func10 #[(.agg (eC _ _ _ _ _ _ _ _ _ _ _).toArray)] ?_;with_reducible refine(mH (hE.below (HW.out.underN hbe (Below.refl _ _) (.none _ _))) hs hX.out).mono ?_;rintro e Cw ⟨rfl,hb⟩;refine⟨_,rfl,?_⟩;replace HW:=ah.mk (HW.out.quiet hb);clear hb)|((with_reducible refine gd 8 rfl ?_);refine ay (by rfl) ?_;dsimp only;refine qi HW 0 11 (eC _ _ _ _ _ _ _ _ _ _ _) Tryz.underlying31 ?_)|(go_at_call 10;with_reducible refine(mH (hF.below (HW.out.underN hbe (Below.refl _ _) (.none _ _))) hs2 hY.out).mono ?_;rintro e GU ⟨rfl,hb⟩;replace HW:=ah.mk (HW.out.quiet hb);clear hb)|((with_reducible refine gd 14 rfl ?_);refine ay (by rfl) ?_;dsimp only;refine lls HW 0 0 _ Tryz.underlying4 ?_))
    go_ret
    exact⟨by first|rfl|(simp;done)|(simp[*];done),(HW.out.underN hbe (Below.refl _ _) (.none _ _))⟩
   |false=>
    cases y0 with
    |true=>
     by_cases c117:(su.size:Int)≤800
     ·skip
      have WK:=decide_eq_true c117
      go_wp2_with (first|((with_reducible refine gd 4 rfl ?_);refine lE HW 0 0 ?_)|((with_reducible refine gq 10 rfl ?_);refine gl (some 5) Tryz.func10 #[(.agg (eC _ _ _ _ _ _ _ _ _ _ _).toArray)] ?_;with_reducible refine(mH (hE.below (HW.out.underN hbe (Below.refl _ _) (.none _ _))) hs hX.out).mono ?_;rintro e vP ⟨rfl,hb⟩;refine⟨_,rfl,?_⟩;replace HW:=ah.mk (HW.out.quiet hb);clear hb)|((with_reducible refine gd 8 rfl ?_);refine ay (by rfl) ?_;dsimp only;refine qi HW 0 11 (eC _ _ _ _ _ _ _ _ _ _ _) Tryz.underlying31 ?_)|(go_at_call 10;with_reducible refine(mH (hF.below (HW.out.underN hbe (Below.refl _ _) (.none _ _))) hs2 hY.out).mono ?_;rintro e uZ ⟨rfl,hb⟩;replace HW:=ah.mk (HW.out.quiet hb);clear hb)|((with_reducible refine gd 14 rfl ?_);refine ay (by rfl) ?_;dsimp only;refine lls HW 0 0 _ Tryz.underlying4 ?_)|((with_reducible refine gd 20 rfl ?_);refine ay (by rfl) ?_;dsimp only;refine lls HW 0 11 _ Tryz.underlying4 ?_)|((with_reducible refine gd 24 rfl ?_);refine ay (by rfl) ?_;dsimp only;refine lls HW 0 22 _ Tryz.underlying9 ?_)|((with_reducible refine gd 30 rfl ?_);refine ay (by rfl) ?_;dsimp only;refine lls HW 0 23 _ Tryz.underlying9 ?_))
      go_ret
      exact⟨by first|rfl|(simp;done)|(simp[*];done),(HW.out.underN hbe (Below.refl _ _) (.none _ _))⟩
     ·skip
      have WK:=decide_eq_false c117
      go_wp2_with (first|((with_reducible refine gd 4 rfl ?_);refine lE HW 0 0 ?_)|((with_reducible refine gq 10 rfl ?_);refine gl (some 5) Tryz.func10 #[(.agg (eC _ _ _ _ _ _ _ _ _ _ _).toArray)] ?_;with_reducible refine(mH (hE.below (HW.out.underN hbe (Below.refl _ _) (.none _ _))) hs hX.out).mono ?_;rintro e Cq ⟨rfl,hb⟩;refine⟨_,rfl,?_⟩;replace HW:=ah.mk (HW.out.quiet hb);clear hb)|((with_reducible refine gd 8 rfl ?_);refine ay (by rfl) ?_;dsimp only;refine qi HW 0 11 (eC _ _ _ _ _ _ _ _ _ _ _) Tryz.underlying31 ?_)|(go_at_call 10;with_reducible refine(mH (hF.below (HW.out.underN hbe (Below.refl _ _) (.none _ _))) hs2 hY.out).mono ?_;rintro e zu ⟨rfl,hb⟩;replace HW:=ah.mk (HW.out.quiet hb);clear hb)|((with_reducible refine gd 14 rfl ?_);refine ay (by rfl) ?_;dsimp only;refine lls HW 0 0 _ Tryz.underlying4 ?_)|((with_reducible refine gd 20 rfl ?_);refine ay (by rfl) ?_;dsimp only;refine lls HW 0 11 _ Tryz.underlying4 ?_)|((with_reducible refine gd 24 rfl ?_);refine ay (by rfl) ?_;dsimp only;refine lls HW 0 22 _ Tryz.underlying9 ?_))
      go_ret
      exact⟨by first|rfl|(simp;done)|(simp[*];done),(HW.out.underN hbe (Below.refl _ _) (.none _ _))⟩
    |false=>
     go_wp2_with (first|((with_reducible refine gd 4 rfl ?_);refine lE HW 0 0 ?_)|((with_reducible refine gq 10 rfl ?_);refine gl (some 5) Tryz.func10 #[(.agg (eC _ _ _ _ _ _ _ _ _ _ _).toArray)] ?_;with_reducible refine(mH (hE.below (HW.out.underN hbe (Below.refl _ _) (.none _ _))) hs hX.out).mono ?_;rintro e zw ⟨rfl,hb⟩;refine⟨_,rfl,?_⟩;replace HW:=ah.mk (HW.out.quiet hb);clear hb)|((with_reducible refine gd 8 rfl ?_);refine ay (by rfl) ?_;dsimp only;refine qi HW 0 11 (eC _ _ _ _ _ _ _ _ _ _ _) Tryz.underlying31 ?_)|(go_at_call 10;with_reducible refine(mH (hF.below (HW.out.underN hbe (Below.refl _ _) (.none _ _))) hs2 hY.out).mono ?_;rintro e Cr ⟨rfl,hb⟩;replace HW:=ah.mk (HW.out.quiet hb);clear hb)|((with_reducible refine gd 14 rfl ?_);refine ay (by rfl) ?_;dsimp only;refine lls HW 0 0 _ Tryz.underlying4 ?_)|((with_reducible refine gd 20 rfl ?_);refine ay (by rfl) ?_;dsimp only;refine lls HW 0 11 _ Tryz.underlying4 ?_))
     go_ret
     exact⟨by first|rfl|(simp;done)|(simp[*];done),(HW.out.underN hbe (Below.refl _ _) (.none _ _))⟩
  |false=>
   go_wp2_with (first|((with_reducible refine gd 4 rfl ?_);refine lE HW 0 0 ?_)|((with_reducible refine gq 10 rfl ?_);refine gl (some 5) Tryz.func10 #[(.agg (eC _ _ _ _ _ _ _ _ _ _ _).toArray)] ?_;with_reducible refine(mH (hE.below (HW.out.underN hbe (Below.refl _ _) (.none _ _))) hs hX.out).mono ?_;rintro e Eh ⟨rfl,hb⟩;refine⟨_,rfl,?_⟩;replace HW:=ah.mk (HW.out.quiet hb);clear hb)|((with_reducible refine gd 8 rfl ?_);refine ay (by rfl) ?_;dsimp only;refine qi HW 0 11 (eC _ _ _ _ _ _ _ _ _ _ _) Tryz.underlying31 ?_)|(go_at_call 10;with_reducible refine(mH (hF.below (HW.out.underN hbe (Below.refl _ _) (.none _ _))) hs2 hY.out).mono ?_;rintro e GJ ⟨rfl,hb⟩;replace HW:=ah.mk (HW.out.quiet hb);clear hb))
   go_ret
   exact⟨by first|rfl|(simp;done)|(simp[*];done),(HW.out.underN hbe (Below.refl _ _) (.none _ _))⟩
 |false=>
  go_wp2_with (first|((with_reducible refine gd 4 rfl ?_);refine lE HW 0 0 ?_)|((with_reducible refine gq 10 rfl ?_);refine gl (some 5) Tryz.func10 #[(.agg (eC _ _ _ _ _ _ _ _ _ _ _).toArray)] ?_;with_reducible refine(mH (hE.below (HW.out.underN hbe (Below.refl _ _) (.none _ _))) hs hX.out).mono ?_;rintro e GK ⟨rfl,hb⟩;refine⟨_,rfl,?_⟩;replace HW:=ah.mk (HW.out.quiet hb);clear hb))
  go_ret
  exact⟨by first|rfl|(simp;done)|(simp[*];done),(HW.out.underN hbe (Below.refl _ _) (.none _ _))⟩
def pV.T5:Bool×List (List Nat×List Nat):=(true,[([],[]),([],[]),([1],[1]),([],[]),([2,3],[2,3]),([4],[4]),([0,5],[0,5]),([6,6,0,1,2,3,4,5,6],[6])])
def pV.B5:List Nat:=[0,0,2,0,14,30,63,127]
theorem pV.tab5:jG .any (opsOf Tryz.f89 5)=pV.T5:=by kernel_rfl
theorem pV.bits5:fQ pV.T5.2 pV.B5=true:=by kernel_rfl
theorem DN{b N C:Nat}{w:World}{M:Nat→Nat→Prop}{x0:Bool}{v1:Value}{x2:Int}{v3:Value}{x4:Int}{x5:ByteArray}{v6:Value}{x7 x8:Int}{v9:Value}{x10:Bool}(hw:TW b M w)(hb0:b≤w.heap.size)(E:ET b M w N C v1 x2 v3 x4 x5 v6 v9)(hN:N≤3000000):Calls Tryz.prog 89 #[.agg (eC x0 v1 x2 v3 x4 x5 v6 x7 x8 v9 x10).toArray] w (Lv b M w N C (900*N)):=by
 obtain⟨A1,n1,c1,A3,n3,c3,A6,n6,c6,A9,n9,c9,rfl,rfl,rfl,rfl,QC,QD⟩:=E.form4
 have HW:ah (LW b NX M w [] (xW b N C (.slice A1 n1 c1) x2 (.slice A3 n3 c3) x4 x5 (.slice A6 n6 c6) (.slice A9 n9 c9)) M w):=⟨LW.start hw E (Mon.et _ _ _ _ _ _ _ _ _)⟩
 clear hw E
 go_enter Tryz.func89,Tryz.ntmps89
 go_wp2_with (first|((with_reducible refine gd 1 rfl ?_);refine lbx (N:=1) (t:=31) HW (eC x0 (.slice A1 n1 c1) x2 (.slice A3 n3 c3) x4 x5 (.slice A6 n6 c6) x7 x8 (.slice A9 n9 c9) x10) ?_;clear HW;intro g1 pJ HW)|((with_reducible refine gd 2 rfl ?_);refine lbx (N:=2) (t:=31) HW zE ?_;clear HW;intro g2 wR HW))
 go_loopg [4,5] (N) (fun kq y4 y5 wq=>∃(Mq:Nat→Nat→Prop)(oq:ByteArray)(iq:Int)(x0r0:Bool)(A1r0:Option Addr)(n1r0:Nat)(c1r0:Nat)(x2r0:Int)(A3r0:Option Addr)(n3r0:Nat)(c3r0:Nat)(x4r0:Int)(x5r0:ByteArray)(A6r0:Option Addr)(n6r0:Nat)(c6r0:Nat)(x7r0:Int)(x8r0:Int)(A9r0:Option Addr)(n9r0:Nat)(c9r0:Nat)(x10r0:Bool),(y4= .string oq)∧(y5= .int .i64 iq)∧ah (0≤iq∧iq≤(N:Int)∧(oq.size:Int)≤300*iq∧N-iq.toNat≤kq)∧ah (LW b NX M w [⟨g2,eC false (.slice none 0 0) 0 (.slice none 0 0) 0 (⟨#[]⟩:ByteArray) (.slice none 0 0) 0 0 (.slice none 0 0) false,31⟩,⟨g1,eC x0r0 (.slice A1r0 n1r0 c1r0) x2r0 (.slice A3r0 n3r0 c3r0) x4r0 x5r0 (.slice A6r0 n6r0 c6r0) x7r0 x8r0 (.slice A9r0 n9r0 c9r0) x10r0,31⟩] (xW b N C (.slice A1r0 n1r0 c1r0) x2r0 (.slice A3r0 n3r0 c3r0) x4r0 x5r0 (.slice A6r0 n6r0 c6r0) (.slice A9r0 n9r0 c9r0)) Mq wq))
 case atStart=>exact⟨_,_,_,_,_,_,_,_,_,_,_,_,_,_,_,_,_,_,_,_,_,_,rfl,rfl,⟨⟨(by first|omega|(show((0:Nat):Int)≤300*0;decide)),(by first|omega|(show((0:Nat):Int)≤300*0;decide)),(by first|omega|(show((0:Nat):Int)≤300*0;decide)),(by first|omega|(show((0:Nat):Int)≤300*0;decide))⟩⟩,⟨LW.less HW.out (HW.out.g.up (by omega)) (Mon.et _ _ _ _ _ _ _ _ _)⟩⟩
 case round=>
  clear HW
  obtain⟨Mq,oq,iq,x0r0,A1r0,n1r0,c1r0,x2r0,A3r0,n3r0,c3r0,x4r0,x5r0,A6r0,n6r0,c6r0,x7r0,x8r0,A9r0,n9r0,c9r0,x10r0,rfl,rfl,HI,HC⟩:=hrel
  have HW:=HC
  clear HC
  obtain⟨aAK,aAL,aAM,aAN⟩:=HI.out
  have aHA:=SL.le HW.out.g.s6
  have aHB:=SL.le HW.out.g.s9
  go_upto_if 13 with(first|((with_reducible refine gd 11 rfl ?_);refine lls HW 1 9 _ Tryz.underlying29 ?_))
  by_cases vR:iq<(n9r0:Int)
  ·skip
   have Qp:=decide_eq_true vR
   go_upto_region 5 with(fail)
   have adY:=(show 0≤iq∧iq<(n9r0:Int)from⟨by omega,by omega⟩)
   obtain⟨aHC,ar7,_,_⟩:=SL.has (HW.out.g.s9) (by omega)
   subst ar7
   obtain⟨f0_e1,f1_e1,f2_e1,f3_e1,hr_e1,hf_e1⟩:=HW.out.rd42 (HW.out.g.s9) (i:=iq) (by omega) (by omega)
   have pi_e1:=eq_true adY.1
   have qi_e1:=eq_true adY.2
   have aHD:=hf_e1.1
   refine mY HW (fun W=>W.rangeAt aHC (iq.toNat*4) (fC f0_e1 f1_e1 f2_e1 f3_e1)) [6,7] 8 (hr_e1) (fun I7 HN hHeld=>?_)
   replace HW:=HN
   clear HN
   refine bK pV.tab5 pV.bits5 (fun HT_ HW_=>?_)
   refine tk 0 (some 16) (bm 8 1) rfl rfl hHeld ?_ (hy:=Wp _ 1 0 (eC _ _ _ _ _ _ _ _ _ _ _) Tryz.underlying31)
   refine pw 1 ?_
   refine tk 2 (some 18) (bm 8 7) rfl rfl hHeld ?_ (hy:=kG _ 1 9 _ Tryz.underlying29)
   refine pw 3 ?_
   refine pw 4 ?_
   refine tk 5 (some 21) (bm 8 63) rfl rfl hHeld ?_ (hy:=yrw (fC f0_e1 f1_e1 f2_e1 f3_e1) (fun W h=>h) Tryz.underlying42)
   refine la 6 (bm 8 127) fun K hK=>?_
   refine gs Tryz.func92 #[(.agg (eC _ _ _ _ _ _ _ _ _ _ _).toArray),(.agg (fC _ _ _ _).toArray)] ?_
   with_reducible refine(Tn HW.out.ts.tw (HW.out.hb hb0) (N:=N) (C:=C) (HW.out.g.up (by omega)) (by omega) aHD).mono ?_
   rintro e Cs h_
   obtain⟨aPF,M_107,rfl,gT⟩:=h_.out
   refine⟨_,rfl,?_⟩
   replace HW:=ah.mk (HW.out.call gT)
   clear gT
   refine hK.out _ _ ?_
   clear hK K
   refine nm ?_
   refine la 7 (bm 8 255) fun K hK=>?_
   refine jX (by rfl) ?_
   refine rA HW 1 0 (.agg (eC _ _ _ _ _ _ _ _ _ _ _).toArray) (eC _ _ _ _ _ _ _ _ _ _ _) (eC _ _ _ _ _ _ _ _ _ _ _) ?_ (gF rfl)
   clear HW
   intro zn HW
   refine hK.out _ _ ?_
   clear hK K
   refine dn ?_
   clear HT_ HW_
   go_upto_region 6 with(fail)
   have Bz:=(show 0≤iq∧iq<(n9r0:Int)from⟨by omega,by omega⟩)
   obtain⟨f0_f,f1_f,f2_f,f3_f,hr_f,hf_f⟩:=HW.out.rd42 (HW.out.g.s9) (i:=iq) (by omega) (by omega)
   have YA:=eq_true Bz.1
   have YB:=eq_true Bz.2
   have aTI:=hf_f.2
   go_wp2_with (first|((with_reducible refine gd 25 rfl ?_);refine lls HW 1 9 _ Tryz.underlying29 ?_)|((with_reducible refine gd 28 rfl ?_);refine lrw (cs:=fC f0_f f1_f f2_f f3_f) hr_f Tryz.underlying42 ?_)|((with_reducible refine gq 93 rfl ?_);refine gl (some 29) Tryz.func93 #[(.agg (fC _ _ _ _).toArray)] ?_;with_reducible refine(LB f0_f f1_f f2_f f3_f (by omega)).mono ?_;rintro e Ef ⟨a3I,rfl,Fg,hb⟩;refine⟨_,rfl,?_⟩;replace Fg:=ah.mk Fg;replace HW:=ah.mk (HW.out.quiet hb);clear hb;have I9:(9223372036854775807<oq.size+a3I.size)=False:=eq_false (by have:=Fg.out;omega)))
   have aHE:(oq++a3I).size=oq.size+a3I.size:=aK _ _
   have aTJ:=Fg.out
   go_roundg (N-(iq+1).toNat)
   case measure=>omega
   case rel=>exact⟨_,_,_,_,_,_,_,_,_,_,_,_,_,_,_,_,_,_,_,_,_,_,rfl,rfl,⟨⟨(by omega),(by omega),(by omega),(by omega)⟩⟩,⟨LW.less HW.out (HW.out.g.up (by omega)) (Mon.et _ _ _ _ _ _ _ _ _)⟩⟩
  ·skip
   have Qp:=decide_eq_false vR
   go_wp2_with (first|((with_reducible refine gd 31 rfl ?_);refine lbe (N:=31) (t:=42) HW (HW.out.hb hb0) ?_;intro v_ aTK zx HN qf gT;obtain⟨aHF,n113,Ei,rfl,ar8⟩:∃A n c,v_= .slice A n c∧n=0:=qf.zero;subst ar8;replace HW:=ah.mk (LW.sl HN.out qf);clear HN qf gT)|((with_reducible refine gt 29 32 rfl ?_);refine ow HW 1 9 (.slice aHF 0 Ei) (eC _ _ _ _ _ _ _ _ _ _ _) ([_]) ?_ (gF rfl);clear HW;intro Eg HW))
   go_loopg [4,6] (N) (fun kq y4 y6 wq=>∃(Mq:Nat→Nat→Prop)(ou:ByteArray)(ku:Int)(x0r1:Bool)(A1r1:Option Addr)(n1r1:Nat)(c1r1:Nat)(x2r1:Int)(A3r1:Option Addr)(n3r1:Nat)(c3r1:Nat)(x4r1:Int)(x5r1:ByteArray)(A6r1:Option Addr)(n6r1:Nat)(c6r1:Nat)(x7r1:Int)(x8r1:Int)(A9r1:Option Addr)(n9r1:Nat)(c9r1:Nat)(x10r1:Bool),(y4= .string ou)∧(y6= .int .i64 ku)∧ah (0≤ku∧ku≤(N:Int)∧(ou.size:Int)≤300*(N:Int)+600*ku∧N-ku.toNat≤kq)∧ah (LW b NX M w [⟨g2,eC false (.slice none 0 0) 0 (.slice none 0 0) 0 (⟨#[]⟩:ByteArray) (.slice none 0 0) 0 0 (.slice none 0 0) false,31⟩,⟨g1,eC x0r1 (.slice A1r1 n1r1 c1r1) x2r1 (.slice A3r1 n3r1 c3r1) x4r1 x5r1 (.slice A6r1 n6r1 c6r1) x7r1 x8r1 (.slice A9r1 n9r1 c9r1) x10r1,31⟩] (xW b N C (.slice A1r1 n1r1 c1r1) x2r1 (.slice A3r1 n3r1 c3r1) x4r1 x5r1 (.slice A6r1 n6r1 c6r1) (.slice A9r1 n9r1 c9r1)) Mq wq))
   case atStart=>exact⟨_,_,_,_,_,_,_,_,_,_,_,_,_,_,_,_,_,_,_,_,_,_,rfl,rfl,⟨⟨(by omega),(by omega),(by omega),(by omega)⟩⟩,⟨LW.less HW.out ⟨HW.out.g.1.t1,HW.out.g.1.t3,HW.out.g.1.c5,(HW.out.g.1.s6.mono (N':=N) (by omega)),(HW.out.g.2.mono (N':=N) (by omega))⟩ (Mon.et _ _ _ _ _ _ _ _ _)⟩⟩
   case round=>
    clear HW
    obtain⟨Mq,ou,ku,x0r1,A1r1,n1r1,c1r1,x2r1,A3r1,n3r1,c3r1,x4r1,x5r1,A6r1,n6r1,c6r1,x7r1,x8r1,A9r1,n9r1,c9r1,x10r1,rfl,rfl,HI,HC⟩:=hrel
    have HW:=HC
    clear HC
    obtain⟨aAO,aAP,aAQ,aAR⟩:=HI.out
    have aHA:=SL.le HW.out.g.s6
    have aHB:=SL.le HW.out.g.s9
    go_upto_if 37 with(first|((with_reducible refine gd 35 rfl ?_);refine lls HW 1 6 _ Tryz.underlying26 ?_))
    by_cases c116:ku<(n6r1:Int)
    ·skip
     have Qn:=decide_eq_true c116
     go_upto_region 11 with(fail)
     go_upto_region 13 with(first|((with_reducible refine gd 41 rfl ?_);refine lE HW 1 0 ?_)|((with_reducible refine gq 94 rfl ?_);refine gl (some 43) Tryz.func94 #[(.agg (eC _ _ _ _ _ _ _ _ _ _ _).toArray),(.int .i64 ku)] ?_;with_reducible refine(Yo HW.out.ts.tw (HW.out.hb hb0) (N:=N) (C:=C) (HW.out.g.up (by omega)) (by omega) (fun A n c e=>by injection e with e1 e2 e3;omega)).mono ?_;rintro e vP h_;obtain⟨E_,Tq,M_117,rfl,gT,hE_,hzss_117⟩:=h_.out;refine⟨_,rfl,?_⟩;obtain⟨a2X,a2Y,a2Z,a3a,a3b,a3c,a3d,a3e,a3f,Tj,a3g,a3h,a3i,a3j,a3k,a3l,a3m,a3n,WS,rfl,hF_,WT,WU⟩:=hE_.out4;clear hE_;replace HW:=ah.mk (LW.et (HW.out.call gT) hF_);clear gT hF_)|((with_reducible refine gd 7 rfl ?_);refine lbx (N:=7) (t:=31) HW zE ?_;clear HW;intro g7 uZ HW)|((with_reducible refine gt 31 7 rfl ?_);refine iC HW 0 ?_;clear HW;intro Cq HW)|((with_reducible refine gd 46 rfl ?_);refine lE HW 0 0 ?_)|((with_reducible refine gt 31 1 rfl ?_);refine iC HW 2 ?_;clear HW;intro zu HW))
     have I9:(9223372036854775807<ou.size+Tq.size)=False:=eq_false (by omega)
     go_wp2_with (fail)
     have aHE:(ou++Tq).size=ou.size+Tq.size:=aK _ _
     go_roundg (N-(ku+1).toNat)
     case measure=>omega
     case rel=>exact⟨_,_,_,_,_,_,_,_,_,_,_,_,_,_,_,_,_,_,_,_,_,_,rfl,rfl,⟨⟨(by omega),(by omega),(by omega),(by omega)⟩⟩,⟨LW.less HW.out.drop (HW.out.g.2.up (by omega)) (Mon.et _ _ _ _ _ _ _ _ _)⟩⟩
    ·skip
     have Qn:=decide_eq_false c116
     go_wp2_with (first|((with_reducible refine gd 50 rfl ?_);refine lE HW 1 0 ?_)|((with_reducible refine gt 31 2 rfl ?_);refine iC HW 0 ?_;clear HW;intro zw HW))
     refine LA HW 0 Tryz.underlying31 ?_
     exact⟨_,_,_,rfl,HW.out.ts,⟨_,_,_,_,_,_,_,_,_,_,_,rfl,(HW.out.g.up (by omega))⟩,(by omega)⟩
theorem Yq{b N:Nat}{w:World}{M:Nat→Nat→Prop}{x0:Bool}{v1:Value}{x2:Int}{v3:Value}{x4:Int}{x5:ByteArray}{v6:Value}{x7 x8:Int}{v9:Value}{x10:Bool}{y0:Bool}{u1:Value}{y2:Int}{u3:Value}{y4:Int}{y5:ByteArray}{u6:Value}{y7 y8:Int}{u9:Value}{oH:Bool}{su sd:ByteArray}{side:Int}(hw:TW b M w)(hb0:b≤w.heap.size)(E:ET b M w N 700 v1 x2 v3 x4 x5 v6 v9)(F:ET b M w N 700 u1 y2 u3 y4 y5 u6 u9)(hN:N≤1000000)(hsu:su.size≤800)(hsd:sd.size≤800):Calls Tryz.prog 82 #[.agg (wC x0 v1 x2 v3 x4 x5 v6 x7 x8 v9 x10 y0 u1 y2 u3 y4 y5 u6 y7 y8 u9 oH su sd).toArray,.int .i64 side] w (Ji b M w N):=by
 obtain⟨A1,n1,c1,A3,n3,c3,A6,n6,c6,A9,n9,c9,rfl,rfl,rfl,rfl,QC,QD⟩:=E.form4
 obtain⟨B1,m1,k1,B3,m3,k3,B6,m6,k6,B9,m9,k9,rfl,rfl,rfl,rfl,hm6,hm9⟩:=F.form4
 have HW:ah (LW b NX M w [] (xW b N 700 (.slice A1 n1 c1) x2 (.slice A3 n3 c3) x4 x5 (.slice A6 n6 c6) (.slice A9 n9 c9)) M w):=⟨LW.start hw E (Mon.et _ _ _ _ _ _ _ _ _)⟩
 replace HW:=ah.mk (LW.fact (H:=xW b N 700 (.slice B1 m1 k1) y2 (.slice B3 m3 k3) y4 y5 (.slice B6 m6 k6) (.slice B9 m9 k9)) HW.out F (Mon.et _ _ _ _ _ _ _ _ _))
 clear hw E F
 go_enter Tryz.func82,Tryz.ntmps82
 go_upto_if 10 with(first|((with_reducible refine gd 2 rfl ?_);refine lbx (N:=2) (t:=47) HW (wC x0 (.slice A1 n1 c1) x2 (.slice A3 n3 c3) x4 x5 (.slice A6 n6 c6) x7 x8 (.slice A9 n9 c9) x10 y0 (.slice B1 m1 k1) y2 (.slice B3 m3 k3) y4 y5 (.slice B6 m6 k6) y7 y8 (.slice B9 m9 k9) oH su sd) ?_;clear HW;intro g2 pJ HW)|((with_reducible refine gd 4 rfl ?_);refine lbx (N:=4) (t:=47) HW zW ?_;clear HW;intro g4 wR HW))
 by_cases LM:side=0
 ·skip
  subst LM
  go_upto_region 4 with(first|((with_reducible refine gd 14 rfl ?_);refine lE HW 1 0 ?_)|((with_reducible refine gq 24 rfl ?_);refine gl (some 15) Tryz.func24 #[(.agg (eC _ _ _ _ _ _ _ _ _ _ _).toArray)] ?_;with_reducible refine(GL HW.out.ts.tw (HW.out.hb hb0) (N:=N) (C:=700) (HW.out.g.1.up (by omega)) (by omega)).mono ?_;rintro e zi h_;obtain⟨E_,M_104,rfl,gT,hE_⟩:=h_.out;refine⟨_,rfl,?_⟩;obtain⟨Cz,CB,CF,CG,CJ,CK,CO,CP,CQ,CR,CS,CU,CV,CW,CX,CY,CZ,D5,yc,rfl,hF_,X0,X3⟩:=hE_.out4;clear hE_;replace HW:=ah.mk (LW.et (HW.out.call gT) hF_);clear gT hF_)|((with_reducible refine gq 89 rfl ?_);refine gl (some 16) Tryz.func89 #[(.agg (eC _ _ _ _ _ _ _ _ _ _ _).toArray)] ?_;with_reducible refine(DN HW.out.ts.tw (HW.out.hb hb0) (N:=N) (C:=700) (HW.out.g.2.up (by omega)) (by omega)).mono ?_;rintro e zl h_;obtain⟨E_,LU,M_106,rfl,gT,hE_,hzss_106⟩:=h_.out;refine⟨_,rfl,?_⟩;obtain⟨aHG,aHH,aHI,aHJ,aHK,aHL,aHM,aHN,aHO,aHP,aHQ,aHR,aHS,aHT,aHU,aHV,aHW,aHX,aAS,rfl,hF_,aAT,aAU⟩:=hE_.out4;clear hE_;replace HW:=ah.mk (LW.et (HW.out.call gT) hF_);clear gT hF_)|((with_reducible refine gd 5 rfl ?_);refine lbx (N:=5) (t:=31) HW zE ?_;clear HW;intro g5 Cs HW)|((with_reducible refine gt 31 5 rfl ?_);refine iC HW 0 ?_;clear HW;intro zn HW))
  cases x10 with
  |true=>
   go_wp2_with (first|((with_reducible refine gd 21 rfl ?_);refine lls HW 2 10 _ Tryz.underlying4 ?_)|((with_reducible refine gd 68 rfl ?_);refine vO HW 2 0 ?_)|((with_reducible refine gt 47 4 rfl ?_);refine iC HW 1 ?_;clear HW;intro GU HW))
   refine kP HW 1 Tryz.underlying47 ?_
   exact⟨_,_,rfl,HW.out.ts,⟨_,_,_,_,_,_,_,_,_,_,_,_,_,_,_,_,_,_,_,_,_,_,_,_,rfl,(HW.out.g.1.1.1.up (by omega)),(HW.out.g.1.1.2.up (by omega)),hsu,hsd⟩⟩
  |false=>
   have adR:=HW.out.cell (v:=(.string su)) 2 22
   go_upto_if 31 with(first|((with_reducible refine gd 21 rfl ?_);refine lls HW 2 10 _ Tryz.underlying4 ?_))
   by_cases Ei:(su.size:Int)+(LU.size:Int)≤800
   ·skip
    have a2U:=decide_eq_true Ei
    go_upto_region 6 with(first|((with_reducible refine gd 32 rfl ?_);refine lE HW 0 0 ?_)|((with_reducible refine gt 31 33 rfl ?_);refine ow HW 2 0 (.agg (eC _ _ _ _ _ _ _ _ _ _ _).toArray) (wC _ _ _ _ _ _ _ _ _ _ _ _ _ _ _ _ _ _ _ _ _ _ _ _) (eC _ _ _ _ _ _ _ _ _ _ _) ?_ (gF rfl);clear HW;intro Eg HW))
    have I9:(9223372036854775807<su.size+LU.size)=False:=eq_false (by omega)
    have Yp:(su++LU).size≤800:=by rw[aK];omega
    go_wp2_with (first|((with_reducible refine gd 35 rfl ?_);refine lls HW 2 22 _ Tryz.underlying9 ?_)|((with_reducible refine gt 9 38 rfl ?_);refine ow HW 2 22 (.string (su++LU)) (wC _ _ _ _ _ _ _ _ _ _ _ _ _ _ _ _ _ _ _ _ _ _ _ _) ([_]) ?_ (gF rfl);clear HW;intro I8 HW)|((with_reducible refine gd 68 rfl ?_);refine vO HW 2 0 ?_)|((with_reducible refine gt 47 4 rfl ?_);refine iC HW 1 ?_;clear HW;intro yh HW))
    refine kP HW 1 Tryz.underlying47 ?_
    exact⟨_,_,rfl,HW.out.ts,⟨_,_,_,_,_,_,_,_,_,_,_,_,_,_,_,_,_,_,_,_,_,_,_,_,rfl,(HW.out.g.2.up (by omega)),(HW.out.g.1.1.2.up (by omega)),Yp,hsd⟩⟩
   ·skip
    have a2U:=decide_eq_false Ei
    go_wp2_with (first|((with_reducible refine gd 68 rfl ?_);refine vO HW 2 0 ?_)|((with_reducible refine gt 47 4 rfl ?_);refine iC HW 1 ?_;clear HW;intro zo HW))
    refine kP HW 1 Tryz.underlying47 ?_
    exact⟨_,_,rfl,HW.out.ts,⟨_,_,_,_,_,_,_,_,_,_,_,_,_,_,_,_,_,_,_,_,_,_,_,_,rfl,(HW.out.g.1.1.1.up (by omega)),(HW.out.g.1.1.2.up (by omega)),hsu,hsd⟩⟩
 ·skip
  have WO:(side==0)=false:=beq_eq_false_iff_ne.mpr LM
  have aPG:(side != 0)=true:=bne_iff_ne.mpr LM
  go_upto_if 39 with(fail)
  by_cases Ym:side=1
  ·skip
   subst Ym
   go_upto_region 9 with(first|((with_reducible refine gd 43 rfl ?_);refine lE HW 1 11 ?_)|((with_reducible refine gq 24 rfl ?_);refine gl (some 44) Tryz.func24 #[(.agg (eC _ _ _ _ _ _ _ _ _ _ _).toArray)] ?_;with_reducible refine(GL HW.out.ts.tw (HW.out.hb hb0) (N:=N) (C:=700) (HW.out.g.2.up (by omega)) (by omega)).mono ?_;rintro e Cq h_;obtain⟨E_,M_119,rfl,gT,hE_⟩:=h_.out;refine⟨_,rfl,?_⟩;obtain⟨aHY,aHZ,aI0,aI1,aI2,aI3,aI4,aI5,aI6,aI7,aI8,aI9,aIa,aIb,aIc,aId,aIe,aIf,aAV,rfl,hF_,aAW,aAX⟩:=hE_.out4;clear hE_;replace HW:=ah.mk (LW.et (HW.out.call gT) hF_);clear gT hF_)|((with_reducible refine gq 89 rfl ?_);refine gl (some 45) Tryz.func89 #[(.agg (eC _ _ _ _ _ _ _ _ _ _ _).toArray)] ?_;with_reducible refine(DN HW.out.ts.tw (HW.out.hb hb0) (N:=N) (C:=700) (HW.out.g.2.up (by omega)) (by omega)).mono ?_;rintro e zw h_;obtain⟨E_,LV,M_121,rfl,gT,hE_,hzss_121⟩:=h_.out;refine⟨_,rfl,?_⟩;obtain⟨aiS,aiT,aiU,aiV,aiW,aiX,aiY,aiZ,aj0,aj1,aj2,aj3,aj4,aj5,aj6,aj7,aj8,aj9,ab9,rfl,hF_,abb,abd⟩:=hE_.out4;clear hE_;replace HW:=ah.mk (LW.et (HW.out.call gT) hF_);clear gT hF_)|((with_reducible refine gd 7 rfl ?_);refine lbx (N:=7) (t:=31) HW zE ?_;clear HW;intro g7 Cr HW)|((with_reducible refine gt 31 7 rfl ?_);refine iC HW 0 ?_;clear HW;intro Eh HW))
   cases oH with
   |true=>
    go_wp2_with (first|((with_reducible refine gd 50 rfl ?_);refine lls HW 2 21 _ Tryz.underlying4 ?_)|((with_reducible refine gd 68 rfl ?_);refine vO HW 2 0 ?_)|((with_reducible refine gt 47 4 rfl ?_);refine iC HW 1 ?_;clear HW;intro GK HW))
    refine kP HW 1 Tryz.underlying47 ?_
    exact⟨_,_,rfl,HW.out.ts,⟨_,_,_,_,_,_,_,_,_,_,_,_,_,_,_,_,_,_,_,_,_,_,_,_,rfl,(HW.out.g.1.1.1.up (by omega)),(HW.out.g.1.1.2.up (by omega)),hsu,hsd⟩⟩
   |false=>
    have aPH:=HW.out.cell (v:=(.string sd)) 2 23
    go_upto_if 60 with(first|((with_reducible refine gd 50 rfl ?_);refine lls HW 2 21 _ Tryz.underlying4 ?_))
    by_cases vo:(sd.size:Int)+(LV.size:Int)≤800
    ·skip
     have GZ:=decide_eq_true vo
     go_upto_region 11 with(first|((with_reducible refine gd 61 rfl ?_);refine lE HW 0 0 ?_)|((with_reducible refine gt 31 62 rfl ?_);refine ow HW 2 11 (.agg (eC _ _ _ _ _ _ _ _ _ _ _).toArray) (wC _ _ _ _ _ _ _ _ _ _ _ _ _ _ _ _ _ _ _ _ _ _ _ _) (eC _ _ _ _ _ _ _ _ _ _ _) ?_ (gF rfl);clear HW;intro SN HW))
     have I9:(9223372036854775807<sd.size+LV.size)=False:=eq_false (by omega)
     have Yp:(sd++LV).size≤800:=by rw[aK];omega
     go_wp2_with (first|((with_reducible refine gd 64 rfl ?_);refine lls HW 2 23 _ Tryz.underlying9 ?_)|((with_reducible refine gt 9 67 rfl ?_);refine ow HW 2 23 (.string (sd++LV)) (wC _ _ _ _ _ _ _ _ _ _ _ _ _ _ _ _ _ _ _ _ _ _ _ _) ([_]) ?_ (gF rfl);clear HW;intro a2S HW)|((with_reducible refine gd 68 rfl ?_);refine vO HW 2 0 ?_)|((with_reducible refine gt 47 4 rfl ?_);refine iC HW 1 ?_;clear HW;intro Qh HW))
     refine kP HW 1 Tryz.underlying47 ?_
     exact⟨_,_,rfl,HW.out.ts,⟨_,_,_,_,_,_,_,_,_,_,_,_,_,_,_,_,_,_,_,_,_,_,_,_,rfl,(HW.out.g.1.1.1.up (by omega)),(HW.out.g.2.up (by omega)),hsu,Yp⟩⟩
    ·skip
     have GZ:=decide_eq_false vo
     go_wp2_with (first|((with_reducible refine gd 68 rfl ?_);refine vO HW 2 0 ?_)|((with_reducible refine gt 47 4 rfl ?_);refine iC HW 1 ?_;clear HW;intro aaR HW))
     refine kP HW 1 Tryz.underlying47 ?_
     exact⟨_,_,rfl,HW.out.ts,⟨_,_,_,_,_,_,_,_,_,_,_,_,_,_,_,_,_,_,_,_,_,_,_,_,rfl,(HW.out.g.1.1.1.up (by omega)),(HW.out.g.1.1.2.up (by omega)),hsu,hsd⟩⟩
  ·skip
   have adT:(side==1)=false:=beq_eq_false_iff_ne.mpr Ym
   have aPI:(side != 1)=true:=bne_iff_ne.mpr Ym
   go_wp2_with (first|((with_reducible refine gd 68 rfl ?_);refine vO HW 1 0 ?_)|((with_reducible refine gt 47 4 rfl ?_);refine iC HW 0 ?_;clear HW;intro a2H HW))
   refine kP HW 0 Tryz.underlying47 ?_
   exact⟨_,_,rfl,HW.out.ts,⟨_,_,_,_,_,_,_,_,_,_,_,_,_,_,_,_,_,_,_,_,_,_,_,_,rfl,(HW.out.g.1.up (by omega)),(HW.out.g.2.up (by omega)),hsu,hsd⟩⟩
theorem Qs{b N:Nat}{w:World}{M:Nat→Nat→Prop}{x0:Bool}{v1:Value}{x2:Int}{v3:Value}{x4:Int}{x5:ByteArray}{v6:Value}{x7 x8:Int}{v9:Value}{x10:Bool}{y0:Bool}{u1:Value}{y2:Int}{u3:Value}{y4:Int}{y5:ByteArray}{u6:Value}{y7 y8:Int}{u9:Value}{oH:Bool}{su sd:ByteArray}{e0 e1 e2:Int}{e3 e4:ByteArray}(hw:TW b M w)(hb0:b≤w.heap.size)(E:ET b M w N 700 v1 x2 v3 x4 x5 v6 v9)(F:ET b M w N 700 u1 y2 u3 y4 y5 u6 u9)(hN:N≤1000000)(hsu:su.size≤800)(hsd:sd.size≤800)(he3:e3.size≤1000)(he4:e4.size≤1000):Calls Tryz.prog 71 #[.agg (wC x0 v1 x2 v3 x4 x5 v6 x7 x8 v9 x10 y0 u1 y2 u3 y4 y5 u6 y7 y8 u9 oH su sd).toArray,.agg (vC e0 e1 e2 e3 e4).toArray] w (Ji b M w (N+700)):=by
 obtain⟨A1,n1,c1,A3,n3,c3,A6,n6,c6,A9,n9,c9,rfl,rfl,rfl,rfl,QC,QD⟩:=E.form4
 obtain⟨B1,m1,k1,B3,m3,k3,B6,m6,k6,B9,m9,k9,rfl,rfl,rfl,rfl,hm6,hm9⟩:=F.form4
 have HW:ah (LW b NX M w [] (xW b N 700 (.slice A1 n1 c1) x2 (.slice A3 n3 c3) x4 x5 (.slice A6 n6 c6) (.slice A9 n9 c9)) M w):=⟨LW.start hw E (Mon.et _ _ _ _ _ _ _ _ _)⟩
 replace HW:=ah.mk (LW.fact (H:=xW b N 700 (.slice B1 m1 k1) y2 (.slice B3 m3 k3) y4 y5 (.slice B6 m6 k6) (.slice B9 m9 k9)) HW.out F (Mon.et _ _ _ _ _ _ _ _ _))
 clear hw E F
 go_enter Tryz.func71,Tryz.ntmps71
 go_upto_if 12 with(first|((with_reducible refine gd 2 rfl ?_);refine lbx (N:=2) (t:=47) HW (wC x0 (.slice A1 n1 c1) x2 (.slice A3 n3 c3) x4 x5 (.slice A6 n6 c6) x7 x8 (.slice A9 n9 c9) x10 y0 (.slice B1 m1 k1) y2 (.slice B3 m3 k3) y4 y5 (.slice B6 m6 k6) y7 y8 (.slice B9 m9 k9) oH su sd) ?_;clear HW;intro g2 pJ HW)|((with_reducible refine gd 3 rfl ?_);refine lbx (N:=3) (t:=99) HW (vC e0 e1 e2 e3 e4) ?_;clear HW;intro g3 wR HW)|((with_reducible refine gd 4 rfl ?_);refine lbx (N:=4) (t:=47) HW zW ?_;clear HW;intro g4 Cv HW)|((with_reducible refine gd 11 rfl ?_);refine lls HW 1 0 _ Tryz.underlying3 ?_))
 by_cases vR:e0=1
 ·skip
  subst vR
  go_upto_if 25 with(first|((with_reducible refine gd 16 rfl ?_);refine lE HW 2 0 ?_)|((with_reducible refine gd 18 rfl ?_);refine lls HW 1 3 _ Tryz.underlying9 ?_)|((with_reducible refine gd 20 rfl ?_);refine lls HW 1 4 _ Tryz.underlying9 ?_)|((with_reducible refine gq 81 rfl ?_);refine gl (some 21) Tryz.func81 #[(.agg (eC _ _ _ _ _ _ _ _ _ _ _).toArray),(.string e3),(.string e4)] ?_;with_reducible refine(SC HW.out.ts.tw (HW.out.hb hb0) (N:=N) (C:=700) (HW.out.g.1.up (by omega)) (by omega) (by omega) (by omega)).mono ?_;rintro e I7 h_;obtain⟨E_,aIg,aja,M_105,rfl,gT,hE_⟩:=h_.out;refine⟨_,rfl,?_⟩;obtain⟨aib,aic,aid,aie,aif,aii,aij,aik,ail,aim,ain,aio,aip,aiq,air,ais,ait,aiu,aaZ,rfl,hF_,ab0,ab1⟩:=hE_.out4;clear hE_;replace HW:=ah.mk (LW.et (HW.out.call gT) hF_);clear gT hF_)|((with_reducible refine gd 5 rfl ?_);refine lbx (N:=5) (t:=31) HW zE ?_;clear HW;intro g5 zl HW)|((with_reducible refine gt 31 5 rfl ?_);refine iC HW 0 ?_;clear HW;intro Cs HW))
  cases aja with
  |true=>
   go_wp2_with (first|((with_reducible refine gd 26 rfl ?_);refine lE HW 0 0 ?_)|((with_reducible refine gt 31 27 rfl ?_);refine ow HW 3 0 (.agg (eC _ _ _ _ _ _ _ _ _ _ _).toArray) (wC _ _ _ _ _ _ _ _ _ _ _ _ _ _ _ _ _ _ _ _ _ _ _ _) (eC _ _ _ _ _ _ _ _ _ _ _) ?_ (gF rfl);clear HW;intro Cw HW)|((with_reducible refine gd 54 rfl ?_);refine vO HW 3 0 ?_)|((with_reducible refine gt 47 4 rfl ?_);refine iC HW 1 ?_;clear HW;intro GU HW))
   refine kP HW 1 Tryz.underlying47 ?_
   exact⟨_,_,rfl,HW.out.ts,⟨_,_,_,_,_,_,_,_,_,_,_,_,_,_,_,_,_,_,_,_,_,_,_,_,rfl,(HW.out.g.2.up (by omega)),(HW.out.g.1.2.up (by omega)),hsu,hsd⟩⟩
  |false=>
   go_wp2_with (first|((with_reducible refine gd 54 rfl ?_);refine vO HW 3 0 ?_)|((with_reducible refine gt 47 4 rfl ?_);refine iC HW 1 ?_;clear HW;intro Ef HW))
   refine kP HW 1 Tryz.underlying47 ?_
   exact⟨_,_,rfl,HW.out.ts,⟨_,_,_,_,_,_,_,_,_,_,_,_,_,_,_,_,_,_,_,_,_,_,_,_,rfl,(HW.out.g.1.1.up (by omega)),(HW.out.g.1.2.up (by omega)),hsu,hsd⟩⟩
 ·skip
  have Qp:(e0==1)=false:=beq_eq_false_iff_ne.mpr vR
  have a2V:(e0 != 1)=true:=bne_iff_ne.mpr vR
  go_upto_if 28 with(fail)
  by_cases Ei:e0=2
  ·skip
   subst Ei
   go_wp2_with (first|((with_reducible refine gd 32 rfl ?_);refine lE HW 2 0 ?_)|((with_reducible refine gd 34 rfl ?_);refine lls HW 1 1 _ Tryz.underlying3 ?_)|((with_reducible refine gq 23 rfl ?_);refine gl (some 35) Tryz.func23 #[(.agg (eC _ _ _ _ _ _ _ _ _ _ _).toArray),(.int .i64 e1)] ?_;with_reducible refine(Qo HW.out.ts.tw (HW.out.hb hb0) (N:=N) (C:=700) (HW.out.g.1.up (by omega)) (by omega)).mono ?_;rintro e I8 h_;obtain⟨E_,aIh,M_114,rfl,gT,hE_⟩:=h_.out;refine⟨_,rfl,?_⟩;obtain⟨aIi,aIj,aIk,aIl,aIm,aIn,aIo,aIp,aIq,aIr,aIs,aIt,aIu,aIv,aIw,aIx,aIy,aIz,aAY,rfl,hF_,aAZ,aB0⟩:=hE_.out4;clear hE_;replace HW:=ah.mk (LW.et (HW.out.call gT) hF_);clear gT hF_)|((with_reducible refine gd 8 rfl ?_);refine lbx (N:=8) (t:=31) HW zE ?_;clear HW;intro g8 yh HW)|((with_reducible refine gt 31 8 rfl ?_);refine iC HW 0 ?_;clear HW;intro zo HW)|((with_reducible refine gd 38 rfl ?_);refine lE HW 0 0 ?_)|((with_reducible refine gt 31 39 rfl ?_);refine ow HW 3 0 (.agg (eC _ _ _ _ _ _ _ _ _ _ _).toArray) (wC _ _ _ _ _ _ _ _ _ _ _ _ _ _ _ _ _ _ _ _ _ _ _ _) (eC _ _ _ _ _ _ _ _ _ _ _) ?_ (gF rfl);clear HW;intro vP HW)|((with_reducible refine gd 54 rfl ?_);refine vO HW 3 0 ?_)|((with_reducible refine gt 47 4 rfl ?_);refine iC HW 1 ?_;clear HW;intro uZ HW))
   refine kP HW 1 Tryz.underlying47 ?_
   exact⟨_,_,rfl,HW.out.ts,⟨_,_,_,_,_,_,_,_,_,_,_,_,_,_,_,_,_,_,_,_,_,_,_,_,rfl,(HW.out.g.2.up (by omega)),(HW.out.g.1.2.up (by omega)),hsu,hsd⟩⟩
  ·skip
   have a2U:(e0==2)=false:=beq_eq_false_iff_ne.mpr Ei
   have aqO:(e0 != 2)=true:=bne_iff_ne.mpr Ei
   go_upto_if 40 with(fail)
   by_cases sW:e0=3
   ·skip
    subst sW
    go_wp2_with (first|((with_reducible refine gd 42 rfl ?_);refine vO HW 2 0 ?_)|((with_reducible refine gd 44 rfl ?_);refine lls HW 1 1 _ Tryz.underlying3 ?_)|((with_reducible refine gq 82 rfl ?_);refine gl (some 45) Tryz.func82 #[(.agg (wC _ _ _ _ _ _ _ _ _ _ _ _ _ _ _ _ _ _ _ _ _ _ _ _).toArray),(.int .i64 e1)] ?_;with_reducible refine(Yq HW.out.ts.tw (HW.out.hb hb0) (N:=N) (HW.out.g.1.up (by omega)) (HW.out.g.2.up (by omega)) (by omega) (by omega) (by omega)).mono ?_;rintro e zw h_;obtain⟨E_,M_121,rfl,gT,hE_⟩:=h_.out;refine⟨_,rfl,?_⟩;obtain⟨aiS,aiT,aiU,aiV,aiW,aiX,aiY,aiZ,aj0,aj1,aj2,aj3,aj4,aj5,aj6,aj7,aj8,aj9,ab9,aIA,aIB,aIC,aID,aIE,aIF,aIG,aIH,aII,aIJ,aIK,aIL,aIM,aIN,aIO,aIP,aIQ,aIR,aB1,aIS,aIT,rfl,hF_,hG_,aB2,aB3,abb,abd,aB4,aB5⟩:=hE_.out4;clear hE_;replace HW:=ah.mk (((HW.out.call gT).et hF_).et hG_);clear gT hF_ hG_)|((with_reducible refine gt 47 4 rfl ?_);refine iC HW 0 ?_;clear HW;intro Cr HW))
    refine kP HW 0 Tryz.underlying47 ?_
    exact⟨_,_,rfl,HW.out.ts,⟨_,_,_,_,_,_,_,_,_,_,_,_,_,_,_,_,_,_,_,_,_,_,_,_,rfl,(HW.out.g.1.2.up (by omega)),(HW.out.g.2.up (by omega)),(by omega),(by omega)⟩⟩
   ·skip
    have Qf:(e0==3)=false:=beq_eq_false_iff_ne.mpr sW
    have Qg:(e0 != 3)=true:=bne_iff_ne.mpr sW
    go_upto_if 46 with(fail)
    by_cases c124:e0=4
    ·skip
     subst c124
     go_wp2_with (first|((with_reducible refine gd 48 rfl ?_);refine vO HW 2 0 ?_)|((with_reducible refine gd 50 rfl ?_);refine lls HW 1 1 _ Tryz.underlying3 ?_)|((with_reducible refine gd 52 rfl ?_);refine lls HW 1 2 _ Tryz.underlying3 ?_)|((with_reducible refine gq 83 rfl ?_);refine gl (some 53) Tryz.func83 #[(.agg (wC _ _ _ _ _ _ _ _ _ _ _ _ _ _ _ _ _ _ _ _ _ _ _ _).toArray),(.int .i64 e1),(.int .i64 e2)] ?_;with_reducible refine(Tk HW.out.ts.tw (HW.out.hb hb0) (N:=N) (HW.out.g.1.up (by omega)) (HW.out.g.2.up (by omega)) (by omega) (by omega) (by omega)).mono ?_;rintro e GK h_;obtain⟨E_,M_125,rfl,gT,hE_⟩:=h_.out;refine⟨_,rfl,?_⟩;obtain⟨aIU,aIV,aIW,aIX,aIY,aIZ,aJ0,aJ1,aJ2,aJ3,aJ4,aJ5,aJ6,aJ7,aJ8,aJ9,aJa,aJb,aB6,aJc,aJd,aJe,aJf,aJg,aJh,aJi,aJj,aJk,aJl,aJm,aJn,aJo,aJp,aJq,aJr,aJs,aJt,aB7,aJu,aJv,rfl,hF_,hG_,aB8,aB9,aBa,aBb,aBd,aBe⟩:=hE_.out4;clear hE_;replace HW:=ah.mk (((HW.out.call gT).et hF_).et hG_);clear gT hF_ hG_)|((with_reducible refine gt 47 4 rfl ?_);refine iC HW 0 ?_;clear HW;intro LF HW))
     refine kP HW 0 Tryz.underlying47 ?_
     exact⟨_,_,rfl,HW.out.ts,⟨_,_,_,_,_,_,_,_,_,_,_,_,_,_,_,_,_,_,_,_,_,_,_,_,rfl,(HW.out.g.1.2.up (by omega)),(HW.out.g.2.up (by omega)),(by omega),(by omega)⟩⟩
    ·skip
     have a3G:(e0==4)=false:=beq_eq_false_iff_ne.mpr c124
     have ar9:(e0 != 4)=true:=bne_iff_ne.mpr c124
     go_wp2_with (first|((with_reducible refine gd 54 rfl ?_);refine vO HW 2 0 ?_)|((with_reducible refine gt 47 4 rfl ?_);refine iC HW 0 ?_;clear HW;intro ah7 HW))
     refine kP HW 0 Tryz.underlying47 ?_
     exact⟨_,_,rfl,HW.out.ts,⟨_,_,_,_,_,_,_,_,_,_,_,_,_,_,_,_,_,_,_,_,_,_,_,_,rfl,(HW.out.g.1.up (by omega)),(HW.out.g.2.up (by omega)),hsu,hsd⟩⟩
theorem Tt{b g:Nat}{l:List Int}{wr w:World}{M:Nat→Nat→Prop}{v:Value}{x:Int}(hw:TW b M w)(hb0:b≤w.heap.size)(hR:RB b wr g l)(hB0:Below wr.heap.size wr w)(hg:w.heap[g]?=some (.cells (rC v x).toArray 75 (0,0)))(hn:∀n,¬M g n)(hv:RV wr l v)(h0:0≤x)(h1:x≤800000):Calls Tryz.prog 46 #[.pointer (some ⟨g,0,none⟩)] w (a2u b wr g l (x+5000) M w 42000):=by
 have kQ:=ah.mk hw
 have HW:ah (LW b (RX g) M w [⟨g,rC v x,75⟩] (fun _ _=>True) M w):=⟨LW.startR hw hg hn trivial (Mon.top _)⟩
 clear hw hg
 go_enter Tryz.func46,Tryz.ntmps46
 go_wp2_with (first|((with_reducible refine gd 3 rfl ?_);refine lbx (N:=3) (t:=47) HW zW ?_;clear HW;intro g3 pJ HW)|((with_reducible refine gq 67 rfl ?_);refine gl (some 8) Tryz.func67 #[] ?_;with_reducible refine(Qr HW.out.ts.tw (HW.out.hb hb0)).mono ?_;rintro e Cv h_;obtain⟨E_,M_102,rfl,gT,hE_⟩:=h_.out;refine⟨_,rfl,?_⟩;obtain⟨a3o,a3p,a3q,a3r,a3s,a3t,a3u,a3v,a3w,a3x,a3y,LP,a3z,a3A,a3B,a3C,a3D,a3E,WX,ajb,ajc,ajd,aje,ajf,ajg,ajh,aji,ajj,ajk,ajl,ajm,ajn,ajo,ajp,ajq,ajr,ajs,abe,LX,ajt,rfl,hF_,hG_,abf,abg,WY,WZ,abh,abj⟩:=hE_.out4;clear hE_;replace HW:=ah.mk (((HW.out.call gT).et hF_).et hG_);clear gT hF_ hG_)|((with_reducible refine gd 4 rfl ?_);refine lbx (N:=4) (t:=47) HW zW ?_;clear HW;intro g4 Ee HW)|((with_reducible refine gt 47 4 rfl ?_);refine iC HW 0 ?_;clear HW;intro zi HW)|((with_reducible refine gd 9 rfl ?_);refine lbe (N:=9) (t:=99) HW (HW.out.hb hb0) ?_;intro v_ aFc I7 HN qf gT;obtain⟨aFd,n106,zy,rfl,WH⟩:∃A n c,v_= .slice A n c∧n=0:=qf.zero;subst WH;replace HW:=ah.mk (LW.sl HN.out qf);clear HN qf gT)|((with_reducible refine gq 22 rfl ?_);refine gl (some 11) Tryz.func22 #[(.pointer (some ⟨g,0,none⟩)),(.int .i64 59)] ?_;with_reducible refine(jc 59 hR (HW.out.under hR hB0 kQ.out) (HW.out.at 2 rfl) hv h0 (by omega) (by omega)).mono ?_;rintro e Cs ⟨aPJ,aJw,aJx,rfl,aju,ajv,iI⟩;refine⟨_,rfl,?_⟩;refine Br HW 2 iI rfl ?_;clear HW iI;intro HW abk abl aBf;have aJy:=eq_true aju;have aJz:=eq_true ajv))
 go_loopg [5,6] (100) (fun kq y5 y6 wq=>∃(Mq:Nat→Nat→Prop)(x0q:Bool)(A1q:Option Addr)(n1q:Nat)(c1q:Nat)(x2q:Int)(A3q:Option Addr)(n3q:Nat)(c3q:Nat)(x4q:Int)(x5q:ByteArray)(A6q:Option Addr)(n6q:Nat)(c6q:Nat)(x7q:Int)(x8q:Int)(A9q:Option Addr)(n9q:Nat)(c9q:Nat)(x10q:Bool)(y0q:Bool)(B1q:Option Addr)(m1q:Nat)(k1q:Nat)(y2q:Int)(B3q:Option Addr)(m3q:Nat)(k3q:Nat)(y4q:Int)(y5q:ByteArray)(B6q:Option Addr)(m6q:Nat)(k6q:Nat)(y7q:Int)(y8q:Int)(B9q:Option Addr)(m9q:Nat)(k9q:Nat)(y10q:Bool)(suq:ByteArray)(sdq:ByteArray)(Aq:Option Addr)(nq:Nat)(cq:Nat)(vq:Value)(xq:Int)(Nq:Nat)(Eq:Nat)(iq:Int),(y5= .slice Aq nq cq)∧(y6= .int .i64 iq)∧ah (0≤iq∧iq.toNat≤kq∧Nq+700*iq.toNat≤41000∧RV wr l vq∧0≤xq∧xq+80*iq≤x+4900∧suq.size≤800∧sdq.size≤800∧Eq+iq.toNat≤100∧nq≤Eq)∧ah (LW b (RX g) M w [⟨g4,wC x0q (.slice A1q n1q c1q) x2q (.slice A3q n3q c3q) x4q x5q (.slice A6q n6q c6q) x7q x8q (.slice A9q n9q c9q) x10q y0q (.slice B1q m1q k1q) y2q (.slice B3q m3q k3q) y4q y5q (.slice B6q m6q k6q) y7q y8q (.slice B9q m9q k9q) y10q suq sdq,47⟩,⟨g3,wC false (.slice none 0 0) 0 (.slice none 0 0) 0 (⟨#[]⟩:ByteArray) (.slice none 0 0) 0 0 (.slice none 0 0) false false (.slice none 0 0) 0 (.slice none 0 0) 0 (⟨#[]⟩:ByteArray) (.slice none 0 0) 0 0 (.slice none 0 0) false (⟨#[]⟩:ByteArray) (⟨#[]⟩:ByteArray),47⟩,⟨g,rC vq xq,75⟩] (fun M w=>(((xW b Nq 700 (.slice A1q n1q c1q) x2q (.slice A3q n3q c3q) x4q x5q (.slice A6q n6q c6q) (.slice A9q n9q c9q)) M w)∧(xW b Nq 700 (.slice B1q m1q k1q) y2q (.slice B3q m3q k3q) y4q y5q (.slice B6q m6q k6q) (.slice B9q m9q k9q)) M w)∧(Yh 99 Eq (.slice Aq nq cq)) M w) Mq wq))
 case atStart=>exact⟨_,_,_,_,_,_,_,_,_,_,_,_,_,_,_,_,_,_,_,_,_,_,_,_,_,_,_,_,_,_,_,_,_,_,_,_,_,_,_,_,_,_,_,_,_,_,0,0,_,rfl,rfl,⟨⟨(by omega),(by omega),(by omega),abk,abl,(by omega),(by omega),(by omega),(by omega),(by omega)⟩⟩,⟨LW.less HW.out ⟨⟨(HW.out.g.1.1.2.up (by omega)),(HW.out.g.1.2.up (by omega))⟩,(HW.out.g.2.mono (N':=0) (by omega))⟩ (Mon.and (Mon.and (Mon.et _ _ _ _ _ _ _ _ _) (Mon.et _ _ _ _ _ _ _ _ _)) (Mon.sl _ _ _))⟩⟩
 case round=>
  clear HW
  obtain⟨Mq,x0q,A1q,n1q,c1q,x2q,A3q,n3q,c3q,x4q,x5q,A6q,n6q,c6q,x7q,x8q,A9q,n9q,c9q,x10q,y0q,B1q,m1q,k1q,y2q,B3q,m3q,k3q,y4q,y5q,B6q,m6q,k6q,y7q,y8q,B9q,m9q,k9q,y10q,suq,sdq,Aq,nq,cq,vq,xq,Nq,Eq,iq,rfl,rfl,HI,HC⟩:=hrel
  have HW:=HC
  clear HC
  obtain⟨aBg,aBh,aBi,X5,X6,aBj,LY,LZ,aBk,aBl⟩:=HI.out
  go_upto_if 13 with(fail)
  by_cases vQ:iq>0
  ·skip
   have Bv:=decide_eq_true vQ
   go_upto_if 21 with(first|((with_reducible refine gd 17 rfl ?_);refine vO HW 0 0 ?_)|((with_reducible refine gq 68 rfl ?_);refine gl (some 18) Tryz.func68 #[(.pointer (some ⟨g,0,none⟩)),(.agg (wC _ _ _ _ _ _ _ _ _ _ _ _ _ _ _ _ _ _ _ _ _ _ _ _).toArray)] ?_;with_reducible refine(Qe HW.out.ts.tw (HW.out.hb hb0) hR (HW.out.under hR hB0 kQ.out) (HW.out.at 2 rfl) (HW.out.noM 2 rfl) X5 X6 (by omega) (N:=Nq) (HW.out.g.1.1.up (by omega)) (HW.out.g.1.2.up (by omega)) (by omega)).mono ?_;rintro e Ef h_;obtain⟨E_,M_111,aJA,aJB,rfl,iI,hE_⟩:=h_.out;refine⟨_,rfl,?_⟩;obtain⟨a3J,a3K,a3L,a3M,a3N,rfl,aBm,aBn⟩:=hE_.out;clear hE_;refine rtg HW 2 iI rfl ?_;clear HW iI;intro HW X7 X8 aBo)|((with_reducible refine gd 7 rfl ?_);refine lbx (N:=7) (t:=99) HW (vC 0 0 0 (⟨#[]⟩:ByteArray) (⟨#[]⟩:ByteArray)) ?_;clear HW;intro g7 zx HW)|((with_reducible refine gt 99 7 rfl ?_);refine iC HW 0 ?_;clear HW;intro Eg HW))
   by_cases Cx:(nq:Int)=0
   ·skip
    have a2Q:((nq:Int)==0)=true:=beq_iff_eq.mpr Cx
    have a2R:((nq:Int) != 0)=false:=bne_eq_false_iff_eq.mpr Cx
    have aqz:=ah.mk Cx
    clear Cx
    go_wp2_with (first|((with_reducible refine gq 69 rfl ?_);refine gl (some 23) Tryz.func69 #[(.pointer (some ⟨g,0,none⟩))] ?_;with_reducible refine(LC hR (HW.out.under hR hB0 kQ.out) (HW.out.at 3 rfl) X7 X8 (by omega)).mono ?_;rintro e zo ⟨adZ,aJC,aJD,rfl,aJE,iI⟩;refine⟨_,rfl,?_⟩;refine Br HW 3 iI rfl ?_;clear HW iI;intro HW abm abn aBp)|((with_reducible refine gq 70 rfl ?_);refine gl (some 25) Tryz.func70 #[(.pointer (some ⟨g,0,none⟩))] ?_;with_reducible refine(LD hR (HW.out.under hR hB0 kQ.out) (HW.out.at 3 rfl) abm abn (by omega)).mono ?_;rintro e uZ ⟨ae0,ahg,ahh,rfl,aJF,iI⟩;refine⟨_,rfl,?_⟩;refine Br HW 3 iI rfl ?_;clear HW iI;intro HW F7 F8 aaq)|((with_reducible refine gt 99 7 rfl ?_);refine iC HW 0 ?_;clear HW;intro Cq HW)|((with_reducible refine gd 28 rfl ?_);refine qi HW 0 0 (vC _ _ _ _ _) Tryz.underlying99 ?_)|((with_reducible refine gd 29 rfl ?_);refine MC (N:=29) (t:=99) (m:=1) HW (vC 1 0 0 adZ ae0) ?_;clear HW;intro g29 zu HW)|((with_reducible refine gd 30 rfl ?_);refine lap (T:=99) (m:=1) (bytes:=56) (z:=.agg (vC 0 0 0 (⟨#[]⟩:ByteArray) (⟨#[]⟩:ByteArray)).toArray) (news:=vC 1 0 0 adZ ae0) HW (HW.out.g.2) (HW.out.hb hb0) rfl (z8 HW.out (i:=0) rfl) (gF rfl) (by decide) (fun i hi=>by obtain rfl:i=0:=(by omega);exact .inr (.inr ⟨rfl,rfl,gF rfl⟩)) (by kernel_rfl) (by rfl) (by decide) (by omega) (by simp only[maxLen];omega) Tryz.underlying76 ?_;intro ah8 ah9 aEX zw HN gT qf;replace HW:=ah.mk (LW.fact (H:=Yh 99 (Eq+1) (.slice ah8 (nq+1) ah9)) HN.out qf (Mon.sl _ _ _));clear HN qf gT)|((with_reducible refine gd 31 rfl ?_);refine vO HW 2 0 ?_)|((with_reducible refine gd 32 rfl ?_);refine qi HW 1 0 (vC _ _ _ _ _) Tryz.underlying99 ?_)|((with_reducible refine gq 71 rfl ?_);refine gl (some 33) Tryz.func71 #[(.agg (wC _ _ _ _ _ _ _ _ _ _ _ _ _ _ _ _ _ _ _ _ _ _ _ _).toArray),(.agg (vC _ _ _ _ _).toArray)] ?_;with_reducible refine(Qs HW.out.ts.tw (HW.out.hb hb0) (N:=Nq) (HW.out.g.1.1.1.up (by omega)) (HW.out.g.1.1.2.up (by omega)) (by omega) LY LZ (by omega) (by omega)).mono ?_;rintro e Eh h_;obtain⟨E_,M_123,rfl,gT,hE_⟩:=h_.out;refine⟨_,rfl,?_⟩;obtain⟨aJG,aJH,aJI,aJJ,aJK,aJL,aJM,aJN,aJO,aJP,aJQ,aJR,aJS,aJT,aJU,aJV,aJW,aJX,aBq,aJY,aJZ,aK0,aK1,aK2,aK3,aK4,aK5,aK6,aK7,aK8,aK9,aKa,aKb,aKc,aKd,aKe,aKf,aBr,aKg,aKh,rfl,hF_,hG_,aBs,aBt,aBu,aBv,aBw,aBx⟩:=hE_.out4;clear hE_;replace HW:=ah.mk (((HW.out.call gT).et hF_).et hG_);clear gT hF_ hG_)|((with_reducible refine gt 47 4 rfl ?_);refine iC HW 2 ?_;clear HW;intro GJ HW))
    go_roundg ((iq-1).toNat)
    case measure=>omega
    case rel=>exact⟨_,_,_,_,_,_,_,_,_,_,_,_,_,_,_,_,_,_,_,_,_,_,_,_,_,_,_,_,_,_,_,_,_,_,_,_,_,_,_,_,_,_,_,_,_,_,(Nq+700),(Eq+1),_,rfl,rfl,⟨⟨(by omega),(by omega),(by omega),F7,F8,(by omega),(by omega),(by omega),(by omega),(by omega)⟩⟩,⟨LW.less HW.out.drop.drop ⟨⟨(HW.out.g.1.2.up (by omega)),(HW.out.g.2.up (by omega))⟩,(HW.out.g.1.1.2.mono (N':=(Eq+1)) (by omega))⟩ (Mon.and (Mon.and (Mon.et _ _ _ _ _ _ _ _ _) (Mon.et _ _ _ _ _ _ _ _ _)) (Mon.sl _ _ _))⟩⟩
   ·skip
    have a2Q:((nq:Int)==0)=false:=beq_eq_false_iff_ne.mpr Cx
    have a2R:((nq:Int) != 0)=true:=bne_iff_ne.mpr Cx
    go_wp2_with (first|((with_reducible refine gd 28 rfl ?_);refine qi HW 0 0 (vC _ _ _ _ _) Tryz.underlying99 ?_)|((with_reducible refine gd 29 rfl ?_);refine MC (N:=29) (t:=99) (m:=1) HW (vC a3J a3K a3L a3M a3N) ?_;clear HW;intro g29 GK HW)|((with_reducible refine gd 30 rfl ?_);refine lap (T:=99) (m:=1) (bytes:=56) (z:=.agg (vC 0 0 0 (⟨#[]⟩:ByteArray) (⟨#[]⟩:ByteArray)).toArray) (news:=vC a3J a3K a3L a3M a3N) HW (HW.out.g.2) (HW.out.hb hb0) rfl (z8 HW.out (i:=0) rfl) (gF rfl) (by decide) (fun i hi=>by obtain rfl:i=0:=(by omega);exact .inr (.inr ⟨rfl,rfl,gF rfl⟩)) (by kernel_rfl) (by rfl) (by decide) (by omega) (by simp only[maxLen];omega) Tryz.underlying76 ?_;intro aKi c127 aTM LF HN gT qf;replace HW:=ah.mk (LW.fact (H:=Yh 99 (Eq+1) (.slice aKi (nq+1) c127)) HN.out qf (Mon.sl _ _ _));clear HN qf gT)|((with_reducible refine gd 31 rfl ?_);refine vO HW 2 0 ?_)|((with_reducible refine gd 32 rfl ?_);refine qi HW 1 0 (vC _ _ _ _ _) Tryz.underlying99 ?_)|((with_reducible refine gq 71 rfl ?_);refine gl (some 33) Tryz.func71 #[(.agg (wC _ _ _ _ _ _ _ _ _ _ _ _ _ _ _ _ _ _ _ _ _ _ _ _).toArray),(.agg (vC _ _ _ _ _).toArray)] ?_;with_reducible refine(Qs HW.out.ts.tw (HW.out.hb hb0) (N:=Nq) (HW.out.g.1.1.1.up (by omega)) (HW.out.g.1.1.2.up (by omega)) (by omega) LY LZ (by omega) (by omega)).mono ?_;rintro e SN h_;obtain⟨E_,M_128,rfl,gT,hE_⟩:=h_.out;refine⟨_,rfl,?_⟩;obtain⟨aKj,aKk,aKl,aKm,aKn,aKo,aKp,aKq,aKr,aKs,aKt,aKu,aKv,aKw,aKx,aKy,aKz,aKA,aBy,aKB,aKC,aKD,aKE,aKF,aKG,aKH,aKI,aKJ,aKK,aKL,aKM,aKN,aKO,aKP,aKQ,aKR,aKS,aBz,aKT,aKU,rfl,hF_,hG_,aBA,aBB,aBC,aBD,aBE,aBF⟩:=hE_.out4;clear hE_;replace HW:=ah.mk (((HW.out.call gT).et hF_).et hG_);clear gT hF_ hG_)|((with_reducible refine gt 47 4 rfl ?_);refine iC HW 2 ?_;clear HW;intro a2S HW))
    go_roundg ((iq-1).toNat)
    case measure=>omega
    case rel=>exact⟨_,_,_,_,_,_,_,_,_,_,_,_,_,_,_,_,_,_,_,_,_,_,_,_,_,_,_,_,_,_,_,_,_,_,_,_,_,_,_,_,_,_,_,_,_,_,(Nq+700),(Eq+1),_,rfl,rfl,⟨⟨(by omega),(by omega),(by omega),X7,X8,(by omega),(by omega),(by omega),(by omega),(by omega)⟩⟩,⟨LW.less HW.out.drop.drop ⟨⟨(HW.out.g.1.2.up (by omega)),(HW.out.g.2.up (by omega))⟩,(HW.out.g.1.1.2.mono (N':=(Eq+1)) (by omega))⟩ (Mon.and (Mon.and (Mon.et _ _ _ _ _ _ _ _ _) (Mon.et _ _ _ _ _ _ _ _ _)) (Mon.sl _ _ _))⟩⟩
  ·skip
   have Bv:=decide_eq_false vQ
   go_upto_region 11 with(fail)
   refine a2w HW (fun _=>True) [3] 4 (trivial) (fun Qh HN hHeld=>?_)
   replace HW:=HN
   clear HN
   refine pw 0 ?_
   refine tk 1 (some 35) (bm 4 3) rfl rfl hHeld ?_ (hy:=Wp _ 0 0 (wC _ _ _ _ _ _ _ _ _ _ _ _ _ _ _ _ _ _ _ _ _ _ _ _) Tryz.underlying47)
   refine pw 2 ?_
   refine la 3 (bm 4 15) fun K hK=>?_
   refine jX (by rfl) ?_
   refine rA HW 1 0 (.agg (wC _ _ _ _ _ _ _ _ _ _ _ _ _ _ _ _ _ _ _ _ _ _ _ _).toArray) (wC _ _ _ _ _ _ _ _ _ _ _ _ _ _ _ _ _ _ _ _ _ _ _ _) (wC _ _ _ _ _ _ _ _ _ _ _ _ _ _ _ _ _ _ _ _ _ _ _ _) ?_ (gF rfl)
   clear HW
   intro aaR HW
   refine hK.out _ _ ?_
   clear hK K
   refine dn ?_
   go_wp2_with (fail)
   refine rtc HW 1 Tryz.underlying47 ?_
   exact⟨_,_,_,_,_,rfl,⟨HW.out.ts,HW.out.at 2 rfl,X5,X6,by omega⟩,⟨_,_,_,_,_,_,_,_,_,_,_,_,_,_,_,_,_,_,_,_,_,_,_,_,rfl,(HW.out.g.1.1.up (by omega)),(HW.out.g.1.2.up (by omega)),LY,LZ⟩⟩
def jA.T6:Bool×List (List Nat×List Nat):=(true,[([],[]),([0],[0]),([],[]),([2],[2]),([3],[3]),([4,3],[4]),([1,5],[1,5]),([0,1,2,3,4,5,6],[]),([7,6,5,0,1,2,3,4,5,6],[6,7])])
def jA.B6:List Nat:=[0,1,0,4,12,28,63,127,255]
theorem jA.tab6:jG .any (opsOf Tryz.f21 6)=jA.T6:=by kernel_rfl
theorem jA.bits6:fQ jA.T6.2 jA.B6=true:=by kernel_rfl
def jA.T11:Bool×List (List Nat×List Nat):=(true,[([],[]),([0],[0]),([1],[1]),([],[]),([3],[3]),([2,0,1,2,3,4],[2]),([5,0,1,2,3,4],[5]),([6,4,4,0,1,2,3,4],[4,6])])
def jA.B11:List Nat:=[0,1,3,0,8,31,63,127]
theorem jA.tab11:jG .any (opsOf Tryz.f21 11)=jA.T11:=by kernel_rfl
theorem jA.bits11:fQ jA.T11.2 jA.B11=true:=by kernel_rfl
theorem Qt{b g:Nat}{l:List Int}{wr w:World}{M:Nat→Nat→Prop}{v:Value}{x:Int}(hw:TW b M w)(hb0:b≤w.heap.size)(hR:RB b wr g l)(hB0:Below wr.heap.size wr w)(hg:w.heap[g]?=some (.cells (rC v x).toArray 75 (0,0)))(hn:∀n,¬M g n)(hv:RV wr l v)(h0:0≤x)(h1:x≤700000):Calls Tryz.prog 21 #[.pointer (some ⟨g,0,none⟩)] w (SA b wr g l (x+7000) M w 42000):=by
 have kQ:=ah.mk hw
 have HW:ah (LW b (RX g) M w [⟨g,rC v x,75⟩] (fun _ _=>True) M w):=⟨LW.startR hw hg hn trivial (Mon.top _)⟩
 clear hw hg
 go_enter Tryz.func21,Tryz.ntmps21
 go_upto_if 12 with(first|((with_reducible refine gd 2 rfl ?_);refine lbx (N:=2) (t:=47) HW zW ?_;clear HW;intro g2 pJ HW)|((with_reducible refine gq 46 rfl ?_);refine gl (some 7) Tryz.func46 #[(.pointer (some ⟨g,0,none⟩))] ?_;with_reducible refine(Tt HW.out.ts.tw (HW.out.hb hb0) hR (HW.out.under hR hB0 kQ.out) (HW.out.at 1 rfl) (HW.out.noM 1 rfl) hv h0 (by omega)).mono ?_;rintro e Cv h_;obtain⟨V_102,E_,M_102,aKV,aKW,rfl,iI,hE_⟩:=h_.out;refine⟨_,rfl,?_⟩;obtain⟨a3o,a3p,a3q,a3r,a3s,a3t,a3u,a3v,a3w,a3x,a3y,LP,a3z,a3A,a3B,a3C,a3D,a3E,WX,ajb,ajc,ajd,aje,ajf,ajg,ajh,aji,ajj,ajk,ajl,ajm,ajn,ajo,ajp,ajq,ajr,ajs,abe,LX,ajt,rfl,hF_,hG_,abf,abg,WY,WZ,abh,abj⟩:=hE_.out4;clear hE_;refine rtg HW 1 iI rfl ?_;clear HW iI;intro HW abo abp aBG;replace HW:=ah.mk ((HW.out.et hF_).et hG_);clear hF_ hG_)|((with_reducible refine gd 4 rfl ?_);refine lbx (N:=4) (t:=47) HW zW ?_;clear HW;intro g4 Ee HW)|((with_reducible refine gt 47 4 rfl ?_);refine iC HW 0 ?_;clear HW;intro zi HW)|((with_reducible refine gq 22 rfl ?_);refine gl (some 11) Tryz.func22 #[(.pointer (some ⟨g,0,none⟩)),(.int .i64 40)] ?_;with_reducible refine(jc 40 hR (HW.out.under hR hB0 kQ.out) (HW.out.at 2 rfl) abo abp (by omega) (by omega)).mono ?_;rintro e zl ⟨vI,ahc,ahd,rfl,ajw,ajx,iI⟩;refine⟨_,rfl,?_⟩;refine Br HW 2 iI rfl ?_;clear HW iI;intro HW sH sI aak;have aKX:=eq_true ajw;have aKY:=eq_true ajx))
 by_cases wS:vI=0
 ·skip
  subst wS
  go_wp2_with (first|((with_reducible refine gt 4 15 rfl ?_);refine ow HW 0 0 (.bool true) (wC _ _ _ _ _ _ _ _ _ _ _ _ _ _ _ _ _ _ _ _ _ _ _ _) ([_]) ?_ (gF rfl);clear HW;intro zn HW)|((with_reducible refine gd 46 rfl ?_);refine vO HW 0 0 ?_)|((with_reducible refine gt 47 2 rfl ?_);refine iC HW 1 ?_;clear HW;intro Cw HW))
  refine kP HW 1 Tryz.underlying47 ?_
  exact⟨_,_,_,_,rfl,⟨HW.out.ts,HW.out.at 2 rfl,sH,sI,by omega⟩,⟨_,_,_,_,_,_,_,_,_,_,_,_,_,_,_,_,_,_,_,_,_,_,_,_,rfl,⟨(rD HW.out.g.1.2.t1),(rD HW.out.g.1.2.t3),HW.out.g.1.2.c5,(HW.out.g.1.2.s6.mono (N':=42000) (by omega)),(HW.out.g.1.2.s9.mono (N':=42000) (by omega))⟩,⟨(rD HW.out.g.2.t1),(rD HW.out.g.2.t3),HW.out.g.2.c5,(HW.out.g.2.s6.mono (N':=42000) (by omega)),(HW.out.g.2.s9.mono (N':=42000) (by omega))⟩,(by omega),(by omega)⟩⟩
 ·skip
  have Jm:(vI==0)=false:=beq_eq_false_iff_ne.mpr wS
  have adS:(vI != 0)=true:=bne_iff_ne.mpr wS
  go_upto_if 16 with(fail)
  by_cases uy:vI=1
  ·skip
   subst uy
   go_upto_region 6 with(fail)
   refine a2w HW (fun _=>True) [8] 9 (trivial) (fun Ef HN hHeld=>?_)
   replace HW:=HN
   clear HN
   refine bK jA.tab6 jA.bits6 (fun HT_ HW_=>?_)
   refine pw 0 ?_
   refine tk 1 (some 19) (bm 9 3) rfl rfl hHeld ?_ (hy:=kG _ 0 22 _ Tryz.underlying9)
   refine pw 2 ?_
   refine on 3 (bm 9 15) fun K hK=>?_
   refine gs Tryz.func22 #[(.pointer (some ⟨g,0,none⟩)),(.int .i64 5)] ?_
   with_reducible refine(jc 5 hR (HW.out.under hR hB0 kQ.out) (HW.out.at 2 rfl) sH sI (by omega) (by omega)).mono ?_
   rintro e Eg ⟨Qu,ajy,ajz,rfl,Tv,Tw,iI⟩
   refine⟨_,rfl,?_⟩
   refine Br HW 2 iI rfl ?_
   clear HW iI
   intro HW X9 Xa abq
   have ajA:=eq_true Tv
   have ajB:=eq_true Tw
   refine hK.out _ _ ⟨HW.out.bxs.dl,trivial⟩ (fun hHeld=>?_)
   clear hK K
   refine nm ?_
   refine pw 4 ?_
   have hw_:ah (wrap64 (3+Qu)=3+Qu):=⟨dL _ (by omega) (by omega)⟩
   refine on 5 (bm 9 63) fun K hK=>?_
   refine gs Tryz.func47 #[(.string (⟨#[120]⟩:ByteArray)),(.int .i64 (wrap64 (3+Qu)))] ?_
   with_reducible refine(aac (⟨#[120]⟩:ByteArray) (wrap64 (3+Qu)) (by decide) (by have h_:=hw_.out;omega) (by have h_:=hw_.out;omega)).mono ?_
   rintro e yh ⟨a3O,rfl,aBH,hb⟩
   refine⟨_,rfl,?_⟩
   replace HW:=ah.mk (HW.out.quiet hb)
   clear hb
   refine hK.out _ _ ⟨HW.out.bxs.dl,trivial⟩ (fun hHeld=>?_)
   clear hK K
   refine nm ?_
   have abr:=hw_.out
   clear hw_
   have I9:(9223372036854775807<LX.size+a3O.size)=False:=eq_false (by omega)
   have Yp:(LX++a3O).size≤900:=by rw[aK];omega
   clear abr
   refine pw 6 ?_
   refine pw 7 ?_
   refine la 8 (bm 9 511) fun K hK=>?_
   refine jX (by rfl) ?_
   refine rA HW 0 22 (.string (LX++a3O)) (wC _ _ _ _ _ _ _ _ _ _ _ _ _ _ _ _ _ _ _ _ _ _ _ _) ([_]) ?_ (gF rfl)
   clear HW
   intro zo HW
   refine hK.out _ _ ?_
   clear hK K
   refine dn ?_
   clear HT_ HW_
   go_wp2_with (first|((with_reducible refine gd 46 rfl ?_);refine vO HW 0 0 ?_)|((with_reducible refine gt 47 2 rfl ?_);refine iC HW 1 ?_;clear HW;intro vP HW))
   refine kP HW 1 Tryz.underlying47 ?_
   exact⟨_,_,_,_,rfl,⟨HW.out.ts,HW.out.at 2 rfl,X9,Xa,by omega⟩,⟨_,_,_,_,_,_,_,_,_,_,_,_,_,_,_,_,_,_,_,_,_,_,_,_,rfl,⟨(rD HW.out.g.1.2.t1),(rD HW.out.g.1.2.t3),HW.out.g.1.2.c5,(HW.out.g.1.2.s6.mono (N':=42000) (by omega)),(HW.out.g.1.2.s9.mono (N':=42000) (by omega))⟩,⟨(rD HW.out.g.2.t1),(rD HW.out.g.2.t3),HW.out.g.2.c5,(HW.out.g.2.s6.mono (N':=42000) (by omega)),(HW.out.g.2.s9.mono (N':=42000) (by omega))⟩,Yp,(by omega)⟩⟩
  ·skip
   have GN:(vI==1)=false:=beq_eq_false_iff_ne.mpr uy
   have a2D:(vI != 1)=true:=bne_iff_ne.mpr uy
   go_upto_if 26 with(fail)
   by_cases c119:vI=2
   ·skip
    subst c119
    go_wp2_with (first|((with_reducible refine gq 48 rfl ?_);refine gl (some 29) Tryz.func48 #[(.pointer (some ⟨g,0,none⟩))] ?_;with_reducible refine(SB (HW.out.hb hb0) hR (HW.out.under hR hB0 kQ.out) (HW.out.at 2 rfl) sH sI (by omega)).mono ?_;rintro e zu ⟨At_120,ajC,ajD,aKZ,aL0,aL1,rfl,gT,iI⟩;refine⟨_,rfl,?_⟩;refine Br HW 2 iI rfl ?_;clear HW iI;intro HW abt abu aBI;replace HW:=ah.mk (LW.fact (H:=TDF b (.slice At_120 ajC ajD)) HW.out gT (Mon.td _));clear gT)|((with_reducible refine gt 25 31 rfl ?_);refine ow HW 0 14 (.agg (tC _ _).toArray) (wC _ _ _ _ _ _ _ _ _ _ _ _ _ _ _ _ _ _ _ _ _ _ _ _) (tC _ _) ?_ (gF rfl);clear HW;intro zw HW)|((with_reducible refine gd 46 rfl ?_);refine vO HW 0 0 ?_)|((with_reducible refine gt 47 2 rfl ?_);refine iC HW 1 ?_;clear HW;intro Cr HW))
    refine kP HW 1 Tryz.underlying47 ?_
    exact⟨_,_,_,_,rfl,⟨HW.out.ts,HW.out.at 2 rfl,abt,abu,by omega⟩,⟨_,_,_,_,_,_,_,_,_,_,_,_,_,_,_,_,_,_,_,_,_,_,_,_,rfl,⟨(rD HW.out.g.1.1.2.t1),(rD HW.out.g.1.1.2.t3),HW.out.g.1.1.2.c5,(HW.out.g.1.1.2.s6.mono (N':=42000) (by omega)),(HW.out.g.1.1.2.s9.mono (N':=42000) (by omega))⟩,⟨(rD HW.out.g.1.2.t1),HW.out.g.2,HW.out.g.1.2.c5,(HW.out.g.1.2.s6.mono (N':=42000) (by omega)),(HW.out.g.1.2.s9.mono (N':=42000) (by omega))⟩,(by omega),(by omega)⟩⟩
   ·skip
    have WN:(vI==2)=false:=beq_eq_false_iff_ne.mpr c119
    have aPK:(vI != 2)=true:=bne_iff_ne.mpr c119
    go_upto_if 32 with(fail)
    by_cases c124:vI=3
    ·skip
     subst c124
     go_upto_if 38 with(first|((with_reducible refine gd 36 rfl ?_);refine lls HW 0 6 _ Tryz.underlying26 ?_))
     by_cases a2C:(LP:Int)>0
     ·skip
      have ara:=decide_eq_true a2C
      go_upto_region 11 with(fail)
      have Xb:=(show(0:Int)≤0∧0<(LP:Int)from⟨by omega,by omega⟩)
      obtain⟨aTN,arb,_,_⟩:=SL.has (HW.out.g.1.2.s6) (by omega)
      subst arb
      have YA:=eq_true Xb.1
      have YB:=eq_true Xb.2
      refine a2w HW (fun _=>True) [7] 8 (trivial) (fun LF HN hHeld=>?_)
      replace HW:=HN
      clear HN
      refine bK jA.tab11 jA.bits11 (fun HT_ HW_=>?_)
      refine pw 0 ?_
      refine pw 1 ?_
      refine tk 2 (some 41) (bm 8 7) rfl rfl hHeld ?_ (hy:=kG _ 0 6 _ Tryz.underlying26)
      refine pw 3 ?_
      refine on 4 (bm 8 31) fun K hK=>?_
      refine gs Tryz.func22 #[(.pointer (some ⟨g,0,none⟩)),(.int .i64 9)] ?_
      with_reducible refine(jc 9 hR (HW.out.under hR hB0 kQ.out) (HW.out.at 2 rfl) sH sI (by omega) (by omega)).mono ?_
      rintro e SN ⟨aPL,aL2,aL3,rfl,ajE,ajF,iI⟩
      refine⟨_,rfl,?_⟩
      refine Br HW 2 iI rfl ?_
      clear HW iI
      intro HW abv abw aBJ
      have aL4:=eq_true ajE
      have aL5:=eq_true ajF
      refine hK.out _ _ ⟨HW.out.bxs.dl,trivial⟩ (fun hHeld=>?_)
      clear hK K
      refine nm ?_
      refine pw 5 ?_
      refine pw 6 ?_
      refine la 7 (bm 8 255) fun K hK=>?_
      refine jX (by rfl) ?_
      refine a2k HW (HW.out.g.1.2.s6) Xb.1 Xb.2 0 (by decide) ?_
      clear HW
      intro a2S HW
      refine hK.out _ _ ?_
      clear hK K
      refine dn ?_
      clear HT_ HW_
      go_wp2_with (first|((with_reducible refine gd 46 rfl ?_);refine vO HW 0 0 ?_)|((with_reducible refine gt 47 2 rfl ?_);refine iC HW 1 ?_;clear HW;intro Qh HW))
      refine kP HW 1 Tryz.underlying47 ?_
      exact⟨_,_,_,_,rfl,⟨HW.out.ts,HW.out.at 2 rfl,abv,abw,by omega⟩,⟨_,_,_,_,_,_,_,_,_,_,_,_,_,_,_,_,_,_,_,_,_,_,_,_,rfl,⟨(rD HW.out.g.1.2.t1),(rD HW.out.g.1.2.t3),HW.out.g.1.2.c5,(HW.out.g.1.2.s6.mono (N':=42000) (by omega)),(HW.out.g.1.2.s9.mono (N':=42000) (by omega))⟩,⟨(rD HW.out.g.2.t1),(rD HW.out.g.2.t3),HW.out.g.2.c5,(HW.out.g.2.s6.mono (N':=42000) (by omega)),(HW.out.g.2.s9.mono (N':=42000) (by omega))⟩,(by omega),(by omega)⟩⟩
     ·skip
      have ara:=decide_eq_false a2C
      go_wp2_with (first|((with_reducible refine gd 46 rfl ?_);refine vO HW 0 0 ?_)|((with_reducible refine gt 47 2 rfl ?_);refine iC HW 1 ?_;clear HW;intro aaR HW))
      refine kP HW 1 Tryz.underlying47 ?_
      exact⟨_,_,_,_,rfl,⟨HW.out.ts,HW.out.at 2 rfl,sH,sI,by omega⟩,⟨_,_,_,_,_,_,_,_,_,_,_,_,_,_,_,_,_,_,_,_,_,_,_,_,rfl,⟨(rD HW.out.g.1.2.t1),(rD HW.out.g.1.2.t3),HW.out.g.1.2.c5,(HW.out.g.1.2.s6.mono (N':=42000) (by omega)),(HW.out.g.1.2.s9.mono (N':=42000) (by omega))⟩,⟨(rD HW.out.g.2.t1),(rD HW.out.g.2.t3),HW.out.g.2.c5,(HW.out.g.2.s6.mono (N':=42000) (by omega)),(HW.out.g.2.s9.mono (N':=42000) (by omega))⟩,(by omega),(by omega)⟩⟩
    ·skip
     have a3G:(vI==3)=false:=beq_eq_false_iff_ne.mpr c124
     have ar9:(vI != 3)=true:=bne_iff_ne.mpr c124
     go_wp2_with (first|((with_reducible refine gd 46 rfl ?_);refine vO HW 0 0 ?_)|((with_reducible refine gt 47 2 rfl ?_);refine iC HW 1 ?_;clear HW;intro a2H HW))
     refine kP HW 1 Tryz.underlying47 ?_
     exact⟨_,_,_,_,rfl,⟨HW.out.ts,HW.out.at 2 rfl,sH,sI,by omega⟩,⟨_,_,_,_,_,_,_,_,_,_,_,_,_,_,_,_,_,_,_,_,_,_,_,_,rfl,⟨(rD HW.out.g.1.2.t1),(rD HW.out.g.1.2.t3),HW.out.g.1.2.c5,(HW.out.g.1.2.s6.mono (N':=42000) (by omega)),(HW.out.g.1.2.s9.mono (N':=42000) (by omega))⟩,⟨(rD HW.out.g.2.t1),(rD HW.out.g.2.t3),HW.out.g.2.c5,(HW.out.g.2.s6.mono (N':=42000) (by omega)),(HW.out.g.2.s9.mono (N':=42000) (by omega))⟩,(by omega),(by omega)⟩⟩
end Go.Proofs.YtokblgdgpnakpaaGreat.PFnEndLess
namespace Go.Proofs.YtokblgdgpnakpaaGreat.PFnEndLess
open Go.RowKit Go.Proofs.YtokblgdgpnakpaaGreatW.PrintWords Go.Proofs.YtokblgdgpnakpaaGreatW.PrintLast Go.Proofs.YtokblgdgpnakpaaGreatW.PrintMore Go.Proofs.YtokblgdgpnakpaaGreat.Lm
attribute [local go_sem] bA bn bV bW aW aV bE bF
theorem ae1(d:Nat)(w:World)(x0 y0:Int)(x1 y1:Bool)(x2 y2:Int)(x3 y3:ByteArray):
 (Op.equalIn (d+2) 42 (.agg #[.int .i64 x0,.bool x1,.int .i64 x2,.string x3]) (.agg #[.int .i64 y0,.bool y1,.int .i64 y2,.string y3])).run Tryz.prog w= .ok (x0==y0&&(x1==y1&&(x2==y2&&(x3.toList==y3.toList)))) w:=by
 refine aef Tryz.underlying42 (by kernel_rfl) ?_
 refine Fv (by rfl) (by go_simp;rfl) (by go_simp;rfl) (by go_simp) ?_
 refine Fv (by rfl) (by go_simp;rfl) (by go_simp;rfl) (by go_simp) ?_
 refine Fv (by rfl) (by go_simp;rfl) (by go_simp;rfl) (by go_simp) ?_
 exact YL (by rfl) (by go_simp;rfl) (by go_simp;rfl) (by go_simp)
attribute [local go_sem high] ae1
def bC.j0:Nat→ByteArray→Int→Bool→Option (Int×Bool×Int×ByteArray×Int×Int)
 |0,_,_,_=>none
 |k+1,x0,x5,YS=>if YS=true then(some (0,false,0,(⟨#[]⟩:ByteArray),0,(-1)))else(if(x0.size:Int)<x5 then(some (0,false,0,(⟨#[]⟩:ByteArray),0,0))else(if 1<(x0.size:Int)then(if 2<(x0.size:Int)then(if 3<(x0.size:Int)then(if 4≤x5 then(if x5≤(x0.size:Int)then((jJ.f (wrap64 (bt x0 1)) ((bt x0 2)==1) (wrap64 (bt x0 3)) (x0.extract 4 (x5:Int).toNat)).bind fun P7=>(if P7=true then(some (wrap64 (bt x0 1),((bt x0 2)==1),wrap64 (bt x0 3),x0.extract 4 (x5:Int).toNat,x5,1))else(some (0,false,0,(⟨#[]⟩:ByteArray),0,(-1)))))else(none))else(none))else(none))else(none))else(none)))
def bC.f(k:Nat)(a0:ByteArray):Option (Int×Bool×Int×ByteArray×Int×Int):=if(a0.size:Int)<4 then(some (0,false,0,(⟨#[]⟩:ByteArray),0,0))else(if 0<(a0.size:Int)then(if(bt a0 0)>200 then(bC.j0 k a0 (wrap64 (4+(wrap64 (bt a0 0)))) true)else(if 2<(a0.size:Int)then(bC.j0 k a0 (wrap64 (4+(wrap64 (bt a0 0)))) (decide ((bt a0 2)>1)))else(none)))else(none))
theorem bC.mono_l:∀k,(∀y0 y1 y2,gM (bC.j0 k y0 y1 y2) (bC.j0 (k+1) y0 y1 y2))
 |0=>fun _ _ _ r h=>by simp[bC.j0]at h
 |k+1=>by
  have mW:=bC.mono_l k
  ·intro y0 y1 y2
   unfold bC.j0
   exact zm
theorem bC.mono:∀a0 k,gM (bC.f k a0) (bC.f (k+1) a0):=by
 intro a0 k
 have mW:=bC.mono_l k
 unfold bC.f
 exact zm
def bC.T8:Bool×List (List Nat×List Nat):=(true,[([],[]),([0],[0]),([1],[1]),([],[]),([3],[3]),([4],[4]),([],[]),([6],[6]),([7],[7]),([],[]),([],[]),([9,10],[9,10]),([2,5,8,11],[2,5,8,11]),([],[]),([13,12,0,1,2,3,4,5,6,7,8,9,10,11,12,13],[12,13])])
def bC.B8:List Nat:=[0,1,3,0,8,24,0,64,192,0,0,1536,4095,0,16383]
theorem bC.tab8:jG .any (opsOf Tryz.f19 8)=bC.T8:=by kernel_rfl
theorem bC.bits8:fQ bC.T8.2 bC.B8=true:=by kernel_rfl
theorem bC.calls(k:Nat)(a0:ByteArray)(r1:Int)(r2:Bool)(r3:Int)(r4:ByteArray)(r5:Int)(r6:Int)(w:World)(h:bC.f k a0=some (r1,r2,r3,r4,r5,r6)):
 Calls Tryz.prog 19 #[.string a0] w fun e w'=>e= .returned (.tuple #[.agg #[.int .i64 r1,.bool r2,.int .i64 r3,.string r4],.int .i64 r5,.int .i64 r6])∧Below w.heap.size w w':=by
 have Xp:=Tryz.underlying42
 have HB:=ah.mk (Below.refl w.heap.size w)
 have H:(if(a0.size:Int)<4 then(some (0,false,0,(⟨#[]⟩:ByteArray),0,0))else(if 0<(a0.size:Int)then(if(bt a0 0)>200 then(bC.j0 k a0 (wrap64 (4+(wrap64 (bt a0 0)))) true)else(if 2<(a0.size:Int)then(bC.j0 k a0 (wrap64 (4+(wrap64 (bt a0 0)))) (decide ((bt a0 2)>1)))else(none)))else(none)))=some (r1,r2,r3,r4,r5,r6):=h
 clear h
 replace H:=sp H
 rcases H with⟨c2,H⟩|⟨c2,H⟩
 ·skip
  have c2b0:=decide_eq_true c2
  have c2b1:=decide_eq_true (by omega)
  clear c2
  simp only[Option.some.injEq,Prod.mk.injEq]at H
  obtain⟨rfl,rfl,rfl,rfl,rfl,rfl⟩:=H
  go_enter Tryz.func19,Tryz.ntmps19
  go_wp2_with (first|((with_reducible refine gd 2 rfl ?_);refine bx (N:=2) (cs:=#[.int .i64 0,.bool false,.int .i64 0,.string (⟨#[]⟩:ByteArray)]) (t:=42) ?_;intro yF hg w3 hbox hb;have mI:=ah.mk (hbox);have a3P:=gw HB hg;have ard:=a3P;replace HB:=ah.mk (ai (zb HB) hb);clear hb hbox hg;obtain⟨qK,qL,uL,vY,uM,qM,uN,vZ⟩:=c4 mI))
  refine bodyPost_ret (fA rfl _ _ yF 42 #[.int .i64 0,.bool false,.int .i64 0,.string (⟨#[]⟩:ByteArray)] (0,0) _ rfl (zp mI) Tryz.underlying42 rfl (by kernel_rfl)) rfl ?_
  exact⟨ze,zb HB⟩
 ·skip
  have c2b0:=decide_eq_false c2
  have c2b1:=decide_eq_false (by omega)
  clear c2
  replace H:=sp H
  rcases H with⟨c5,H⟩|⟨c5,H⟩
  ·skip
   have c5b0:=decide_eq_true c5
   have c5b1:=decide_eq_true (by omega)
   clear c5
   have Xv:=ah.mk H
   clear H
   go_enter Tryz.func19,Tryz.ntmps19
   go_upto_region 4 with(first|((with_reducible refine gd 2 rfl ?_);refine bx (N:=2) (cs:=#[.int .i64 0,.bool false,.int .i64 0,.string (⟨#[]⟩:ByteArray)]) (t:=42) ?_;intro yF hg w8 hbox hb;have mI:=ah.mk (hbox);have a3P:=gw HB hg;have ard:=a3P;replace HB:=ah.mk (ai (zb HB) hb);clear hb hbox hg;have p6:0≤(0:Int):=(by omega);have q6:0<a0.size:=(by have:(0:Int)<(a0.size:Int):=of_decide_eq_true za;omega);have hx6:∀h:0<a0.size,((a0[0]'h).toNat:Int)=bt a0 0:=fF a0 0;clear p6;have qi6:(0<(a0.size:Int))=True:=eq_true (of_decide_eq_true za);replace q6:=eq_true q6))
   (try simp only[Act.put,s1,s2,s3])
   go_cut [15] (fun v15 wc=>∃(kq:Nat)(Xc:Bool),v15= .bool Xc∧ah (bC.j0 kq a0 (wrap64 (4+(wrap64 (bt a0 0)))) Xc=some (r1,r2,r3,r4,r5,r6))∧ah (kq≤k)∧ah (wc.heap[yF]?=some (.cells #[.int .i64 0,.bool false,.int .i64 0,.string (⟨#[]⟩:ByteArray)] 42 (0,0)))∧ah (Below w.heap.size w wc))
   case first=>
    have H:=Xv.out
    clear Xv
    by_cases c10:(bt a0 0)>200
    ·rw[if_pos c10]at H
     have c10b0:=decide_eq_true c10
     clear c10
     (first|rw[c10b0]|rw[c10b1]|rw[c10b2]|(simp only[gI,iB];rw[c10b0])|skip)
     have H':=ah.mk H
     clear H
     have p9:0≤(0:Int):=(by omega)
     have q9:0<a0.size:=(by have:(0:Int)<(a0.size:Int):=of_decide_eq_true za;omega)
     have hx9:∀h:0<a0.size,((a0[0]'h).toNat:Int)=bt a0 0:=fF a0 0
     clear p9
     have qi9:(0<(a0.size:Int))=True:=eq_true (of_decide_eq_true za)
     replace q9:=eq_true q9
     go_wp2
     go_meet
     case rel=>exact⟨_,(true),zs,H',⟨by first|omega|exact Nat.le_refl _⟩,⟨by exact zk mI⟩,⟨zb HB⟩⟩
    ·rw[if_neg c10]at H
     have c10b0:=decide_eq_false c10
     clear c10
     (first|rw[c10b0]|rw[c10b1]|rw[c10b2]|(simp only[gI,iB];rw[c10b0])|skip)
     by_cases c11:2<(a0.size:Int)
     ·rw[if_pos c11]at H
      have c11b0:=decide_eq_true c11
      have c11b1:=decide_eq_true (by omega)
      clear c11
      have H':=ah.mk H
      clear H
      have p9:0≤(0:Int):=(by omega)
      have q9:0<a0.size:=(by have:(0:Int)<(a0.size:Int):=of_decide_eq_true za;omega)
      have hx9:∀h:0<a0.size,((a0[0]'h).toNat:Int)=bt a0 0:=fF a0 0
      clear p9
      have qi9:(0<(a0.size:Int))=True:=eq_true (of_decide_eq_true za)
      replace q9:=eq_true q9
      have p12:0≤(2:Int):=(by omega)
      have q12:2<a0.size:=(by have:(2:Int)<(a0.size:Int):=of_decide_eq_true za;omega)
      have aL7:∀h:2<a0.size,((a0[2]'h).toNat:Int)=bt a0 2:=fF a0 2
      clear p12
      have aL8:(2<(a0.size:Int))=True:=eq_true (of_decide_eq_true za)
      replace q12:=eq_true q12
      go_wp2
      go_meet
      case rel=>exact⟨_,(decide ((bt a0 2)>1)),zs,H',⟨by first|omega|exact Nat.le_refl _⟩,⟨by exact zk mI⟩,⟨zb HB⟩⟩
     ·rw[if_neg c11]at H
      exact absurd H (by simp)
   case rest=>
    clear Xv
    try clear c1
    try clear p1
    try clear q1
    try clear hx1
    try clear qi1
    try clear c2
    try clear c2b0
    try clear c2b1
    try clear p2
    try clear c5
    try clear c5b0
    try clear c5b1
    try clear p6
    try clear q6
    try clear hx6
    try clear qi6
    try clear p9
    try clear q9
    try clear hx9
    try clear qi9
    try clear c10
    try clear c10b0
    try clear c10b1
    try clear c10b2
    try clear c11
    try clear c11b0
    try clear c11b1
    try clear p12
    try clear q12
    try clear aL7
    try clear aL8
    try clear qK
    try clear qL
    try clear uL
    try clear vY
    try clear uM
    try clear qM
    try clear uN
    try clear vZ
    try clear p12
    try clear p6
    try clear p9
    try clear q12
    try clear q6
    try clear q9
    obtain⟨kq,Xc,rfl,HA,HJ6,mI,HB⟩:=hcut
    cases kq with
    |zero=>exact absurd HA.out (by simp[bC.j0])
    |succ kj6=>
     have H:=HA.out
     clear HA
     simp only[bC.j0]at H
     by_cases c13:Xc=true
     ·subst c13
      rw[if_pos rfl]at H
      simp only[Option.some.injEq,Prod.mk.injEq]at H
      obtain⟨rfl,rfl,rfl,rfl,rfl,rfl⟩:=H
      obtain⟨a8k,a8l,a8m,a8n,a8o,a8p,a8q,a8r⟩:=c4 mI
      go_wp2
      refine bodyPost_ret (fA rfl _ _ yF 42 #[.int .i64 0,.bool false,.int .i64 0,.string (⟨#[]⟩:ByteArray)] (0,0) _ rfl (zp mI) Tryz.underlying42 rfl (by kernel_rfl)) rfl ?_
      exact⟨ze,zb HB⟩
     ·replace c13:=Bool.eq_false_iff.mpr c13
      subst c13
      rw[if_neg (show ¬(false=true) by decide)]at H
      by_cases c15:(a0.size:Int)<(wrap64 (4+(wrap64 (bt a0 0))))
      ·rw[if_pos c15]at H
       have c15b0:=decide_eq_true c15
       clear c15
       simp only[Option.some.injEq,Prod.mk.injEq]at H
       obtain⟨rfl,rfl,rfl,rfl,rfl,rfl⟩:=H
       obtain⟨EW,EX,Kj,Kk,EY,EZ,Kl,Km⟩:=c4 mI
       go_wp2
       refine bodyPost_ret (fA rfl _ _ yF 42 #[.int .i64 0,.bool false,.int .i64 0,.string (⟨#[]⟩:ByteArray)] (0,0) _ rfl (zp mI) Tryz.underlying42 rfl (by kernel_rfl)) rfl ?_
       exact⟨ze,zb HB⟩
      ·rw[if_neg c15]at H
       have c15b0:=decide_eq_false c15
       clear c15
       by_cases c17:1<(a0.size:Int)
       ·rw[if_pos c17]at H
        have c17b0:=decide_eq_true c17
        have c17b1:=decide_eq_true (by omega)
        clear c17
        by_cases c19:2<(a0.size:Int)
        ·rw[if_pos c19]at H
         have c19b0:=decide_eq_true c19
         have c19b1:=decide_eq_true (by omega)
         clear c19
         by_cases c21:3<(a0.size:Int)
         ·rw[if_pos c21]at H
          have c21b0:=decide_eq_true c21
          have c21b1:=decide_eq_true (by omega)
          clear c21
          by_cases c23:4≤(wrap64 (4+(wrap64 (bt a0 0))))
          ·rw[if_pos c23]at H
           have c23b0:=eq_true c23
           have c23b1:=decide_eq_true c23
           by_cases c24:(wrap64 (4+(wrap64 (bt a0 0))))≤(a0.size:Int)
           ·rw[if_pos c24]at H
            have c24b0:=eq_true c24
            have c24b1:=decide_eq_true c24
            obtain⟨P7,A25,H⟩:=ob H
            (try dsimp only at H)
            have arf:=ah.mk H
            clear H
            try go_wp2
            replace mI:=ah.mk (dw mI.out)
            replace HB:=ah.mk (dF HB.out)
            have p18:0≤(1:Int):=(by omega)
            have q18:1<a0.size:=(by have:(1:Int)<(a0.size:Int):=of_decide_eq_true za;omega)
            have aTP:∀h:1<a0.size,((a0[1]'h).toNat:Int)=bt a0 1:=fF a0 1
            clear p18
            have aTQ:(1<(a0.size:Int))=True:=eq_true (of_decide_eq_true za)
            replace q18:=eq_true q18
            have p20:0≤(2:Int):=(by omega)
            have q20:2<a0.size:=(by have:(2:Int)<(a0.size:Int):=of_decide_eq_true za;omega)
            have aTS:∀h:2<a0.size,((a0[2]'h).toNat:Int)=bt a0 2:=fF a0 2
            clear p20
            have aTT:(2<(a0.size:Int))=True:=eq_true (of_decide_eq_true za)
            replace q20:=eq_true q20
            have p22:0≤(3:Int):=(by omega)
            have q22:3<a0.size:=(by have:(3:Int)<(a0.size:Int):=of_decide_eq_true za;omega)
            have aCq:∀h:3<a0.size,((a0[3]'h).toNat:Int)=bt a0 3:=fF a0 3
            clear p22
            have aCr:(3<(a0.size:Int))=True:=eq_true (of_decide_eq_true za)
            replace q22:=eq_true q22
            refine uG (n:=15) (S:=fun w'=>True) (ds:=[]) #[false,false,false,false,false,false,false,false,false,false,false,false,false,false,false] (by kernel_rfl) rfl rfl trivial (fun hHeld=>?_);refine bK bC.tab8 bC.bits8 (fun HT_ HW_=>?_)
            generalize wc.drew=w27 at mI HB hHeld ⊢
            refine pu 0 (some 31) (bm 15 1) rfl rfl ?_
            refine pu 3 (some 34) (bm 15 9) rfl rfl ?_
            refine pu 6 (some 37) (bm 15 73) rfl rfl ?_
            refine pu 9 (some 40) (bm 15 585) rfl rfl ?_
            refine pu 10 (some 41) (bm 15 1609) rfl rfl ?_
            refine pu 11 (some 42) (bm 15 3657) rfl rfl ?_
            refine take_ (i:=1) (N:=some 32) (v:=?_) (a':=?_) #[true,true,false,true,false,false,true,false,false,true,true,true,false,false,false] rfl rfl (qI HT_.out HW_.out (by kernel_rfl)) (fun _ _ _ h=>h) (Or.inl ⟨by rfl,?_⟩) hHeld ?_ ?_
            rotate_left
            ·intro w' _
             go_simp
             with_reducible rfl
            rotate_left
            ·simp only[Act.put,s1,s2,s3,gI,iB]
             rfl
            refine pu 2 (some 33) (bm 15 3663) rfl rfl ?_
            refine take_ (i:=4) (N:=some 35) (v:=?_) (a':=?_) #[true,true,true,true,true,false,true,false,false,true,true,true,false,false,false] rfl rfl (qI HT_.out HW_.out (by kernel_rfl)) (fun _ _ _ h=>h) (Or.inl ⟨by rfl,?_⟩) hHeld ?_ ?_
            rotate_left
            ·intro w' _
             go_simp
             with_reducible rfl
            rotate_left
            ·simp only[Act.put,s1,s2,s3,gI,iB]
             rfl
            refine pu 5 (some 36) (bm 15 3711) rfl rfl ?_
            refine take_ (i:=7) (N:=some 38) (v:=?_) (a':=?_) #[true,true,true,true,true,true,true,true,false,true,true,true,false,false,false] rfl rfl (qI HT_.out HW_.out (by kernel_rfl)) (fun _ _ _ h=>h) (Or.inl ⟨by rfl,?_⟩) hHeld ?_ ?_
            rotate_left
            ·intro w' _
             go_simp
             with_reducible rfl
            rotate_left
            ·simp only[Act.put,s1,s2,s3,gI,iB]
             rfl
            refine pu 8 (some 39) (bm 15 4095) rfl rfl ?_
            refine pu 12 (some 43) (bm 15 8191) rfl rfl ?_
            refine iN (i:=13) (N:=some 6) (bm 15 16383) rfl rfl (eG HT_.out (by kernel_rfl)) (by decide) (fun K hK=>?_)
            refine zC ?hg (N:=6) ?hd (cs:=#[.int .i64 0,.bool false,.int .i64 0,.string (⟨#[]⟩:ByteArray)]) (t:=42) ?hr ?_;(case hd=>rfl);(case hg=>rfl);(case hr=>first|(go_simp;done)|(go_simp;rfl))
            intro wV hg Yu hbox hb
            have om:=ah.mk (hbox)
            have aPN:=gw HB hg
            have aPO:=gw HB hg
            replace HB:=ah.mk (ai (zb HB) hb)
            have pK:=ah.mk ((by rw[hg];exact Nat.ne_of_lt (gJ (zk mI)):yF≠wV))
            have pM:=ah.mk ((by rw[hg];exact Nat.ne_of_gt (gJ (zk mI)):wV≠yF))
            replace mI:=kb mI hb
            clear hb hbox hg
            refine hK.out _ _ trivial (fun hHeld=>?_)
            clear hK K
            refine nm ?_
            refine iN (i:=14) (N:=none) (bm 15 32767) rfl rfl (eG HT_.out (by kernel_rfl)) (by decide) (fun K hK=>?_)
            have agF:Yu.cell? ⟨wV,0,none⟩=some (.int .i64 0):=(ak om.out 0).trans rfl
            have a1v:=aj om.out 0
            have L6:=pK.out
            have L8:=pM.out
            have apG:Yu.cell? ⟨wV,1,none⟩=some (.bool false):=(ak om.out 1).trans rfl
            have adC:=aj om.out 1
            have VU:=pK.out
            have VW:=pM.out
            have aEK:Yu.cell? ⟨wV,2,none⟩=some (.int .i64 0):=(ak om.out 2).trans rfl
            have apQ:=aj om.out 2
            have a9X:=pK.out
            have a9Y:=pM.out
            have aTU:Yu.cell? ⟨wV,3,none⟩=some (.string (⟨#[]⟩:ByteArray)):=(ak om.out 3).trans rfl
            have aPP:=aj om.out 3
            have aBL:=pK.out
            have aBM:=pM.out
            refine oF (w1:=?_) (by rfl) rfl ?_ ?_
            rotate_left
            ·go_simp
             rfl
            refine hK.out _ _ trivial (fun hHeld=>?_)
            clear hK K
            refine lq (jC HT_.out (by kernel_rfl)) ?_
            have apb:=pM.out
            have apc:=pK.out
            obtain⟨aBN,aBO,aBP,aBQ,aBR,aBS,aBT,aBU⟩:=c4 om
            go_upto_if 46 with(first|((with_reducible refine gq 39 rfl ?_);refine gl (some 45) Tryz.func39 #[.agg #[.int .i64 (wrap64 (bt a0 1)),.bool ((bt a0 2)==1),.int .i64 (wrap64 (bt a0 3)),.string (a0.extract 4 ((wrap64 (4+(wrap64 (bt a0 0)))):Int).toNat)]] ?_;(with_reducible refine(jJ.calls (wrap64 (bt a0 1)) ((bt a0 2)==1) (wrap64 (bt a0 3)) (a0.extract 4 ((wrap64 (4+(wrap64 (bt a0 0)))):Int).toNat) P7 _ A25.out).mono ?_);rintro e w35 ⟨rfl,hb⟩;refine⟨_,rfl,?_⟩;replace mI:=ah.mk (dR (g:=yF) (o:=.cells #[.int .i64 0,.bool false,.int .i64 0,.string (⟨#[]⟩:ByteArray)] 42 (0,0)) (zp mI) hb);replace om:=ah.mk (dR (g:=wV) (o:=.cells #[.int .i64 (wrap64 (bt a0 1)),.bool ((bt a0 2)==1),.int .i64 (wrap64 (bt a0 3)),.string (a0.extract 4 ((wrap64 (4+(wrap64 (bt a0 0)))):Int).toNat)] 42 (0,0)) (zp om) hb);replace HB:=ah.mk (ai (zb HB) hb);(try clear hb)))
            (try simp only[Act.put,s1,s2,s3])
            have H:=arf.out
            clear arf
            by_cases XI:P7=true
            ·subst XI
             rw[if_pos rfl]at H
             simp only[Option.some.injEq,Prod.mk.injEq]at H
             obtain⟨rfl,rfl,rfl,rfl,rfl,rfl⟩:=H
             have Vp:=pM.out
             have Vq:=pK.out
             have zT:w35.cell? ⟨wV,0,none⟩=some (.int .i64 (wrap64 (bt a0 1))):=(ak om.out 0).trans rfl
             have zU:w35.cell? ⟨wV,1,none⟩=some (.bool ((bt a0 2)==1)):=(ak om.out 1).trans rfl
             have zV:w35.cell? ⟨wV,2,none⟩=some (.int .i64 (wrap64 (bt a0 3))):=(ak om.out 2).trans rfl
             have Kz:w35.cell? ⟨wV,3,none⟩=some (.string (a0.extract 4 ((wrap64 (4+(wrap64 (bt a0 0)))):Int).toNat)):=(ak om.out 3).trans rfl
             have zX:=aj om.out 0
             have zY:=aj om.out 1
             have zZ:=aj om.out 2
             have KA:=aj om.out 3
             obtain⟨EB,EC,EF,Uo,EG,EH,EI,Uq⟩:=c4 mI
             go_wp2
             refine bodyPost_ret (fA rfl _ _ yF 42 #[.int .i64 (wrap64 (bt a0 1)),.bool ((bt a0 2)==1),.int .i64 (wrap64 (bt a0 3)),.string (a0.extract 4 ((wrap64 (4+(wrap64 (bt a0 0)))):Int).toNat)] (0,0) _ rfl (zp mI) Tryz.underlying42 rfl (by kernel_rfl)) rfl ?_
             exact⟨ze,zb HB⟩
            ·replace XI:=Bool.eq_false_iff.mpr XI
             subst XI
             rw[if_neg (show ¬(false=true) by decide)]at H
             simp only[Option.some.injEq,Prod.mk.injEq]at H
             obtain⟨rfl,rfl,rfl,rfl,rfl,rfl⟩:=H
             have amO:=pK.out
             have amP:=pM.out
             obtain⟨EJ,EK,EL,Kg,EM,EN,EO,Kh⟩:=c4 mI
             go_wp2
             refine bodyPost_ret (fA rfl _ _ yF 42 #[.int .i64 0,.bool false,.int .i64 0,.string (⟨#[]⟩:ByteArray)] (0,0) _ rfl (zp mI) Tryz.underlying42 rfl (by kernel_rfl)) rfl ?_
             exact⟨ze,zb HB⟩
           ·rw[if_neg c24]at H
            exact absurd H (by simp)
          ·rw[if_neg c23]at H
           exact absurd H (by simp)
         ·rw[if_neg c21]at H
          exact absurd H (by simp)
        ·rw[if_neg c19]at H
         exact absurd H (by simp)
       ·rw[if_neg c17]at H
        exact absurd H (by simp)
  ·skip
   exact absurd H (by simp)
def dJ.l0:Nat→List (jS)→List (jS)→Int→Option (Bool)
 |0,_,_,_=>none
 |k+1,x0,x1,x5=>if x5<(x0.length:Int)then(if 0≤x5 then(if x5<(x1.length:Int)then(if(!(((fZ x0 x5).f0)==((fZ x1 x5).f0))||(!(((fZ x0 x5).f1)==((fZ x1 x5).f1))||(!(((fZ x0 x5).f2)==((fZ x1 x5).f2))||(!((((fZ x0 x5).f3).toList)==(((fZ x1 x5).f3).toList))))))=true then(some false)else(dJ.l0 k x0 x1 (wrap64 (x5+1))))else(none))else(none))else(some true)
def dJ.f(k:Nat)(l0:List (jS))(l1:List (jS)):Option (Bool):=if(l0.length:Int)=(l1.length:Int)then(dJ.l0 k l0 l1 0)else(some false)
theorem dJ.mono_l:∀k,(∀y0 y1 y2,gM (dJ.l0 k y0 y1 y2) (dJ.l0 (k+1) y0 y1 y2))
 |0=>fun _ _ _ r h=>by simp[dJ.l0]at h
 |k+1=>by
  have mW:=dJ.mono_l k
  ·intro y0 y1 y2
   unfold dJ.l0
   exact zm
theorem dJ.mono:∀a0 a1 k,gM (dJ.f k a0 a1) (dJ.f (k+1) a0 a1):=by
 intro a0 a1 k
 have mW:=dJ.mono_l k
 unfold dJ.f
 exact zm
theorem dJ.calls(k:Nat)(A0:Option Addr)(c0:Nat)(l0:List (jS))(A1:Option Addr)(c1:Nat)(l1:List (jS))(r:Bool)(w:World)(hr0:Kd.C R4 w A0 l0.length l0)(hc0:l0.length≤c0)(hr1:Kd.C R4 w A1 l1.length l1)(hc1:l1.length≤c1)(h:dJ.f k l0 l1=some r):
 Calls Tryz.prog 12 #[.slice A0 l0.length c0,.slice A1 l1.length c1] w fun e w'=>e= .returned (.bool r)∧aT w w':=by
 have Xp:=Tryz.underlying42
 have En:=ah.mk hr0
 have Z7:=ah.mk hc0
 clear hr0 hc0
 have HR1:=ah.mk hr1
 have HC1:=ah.mk hc1
 clear hr1 hc1
 have H:(if(l0.length:Int)=(l1.length:Int)then(dJ.l0 k l0 l1 0)else(some false))=some r:=h
 clear h
 replace H:=sp H
 rcases H with⟨c3,H⟩|⟨c3,H⟩
 ·skip
  have c3b0:((l0.length:Int)==(l1.length:Int))=true:=beq_iff_eq.mpr c3
  have c3b1:((l0.length:Int) != (l1.length:Int))=false:=bne_eq_false_iff_eq.mpr c3
  have c3b2:(l0.length==l1.length)=true:=by first|simpa using c3|(simp at c3 ⊢;omega)
  clear c3
  have H':=ah.mk H
  clear H
  go_enter Tryz.func12,Tryz.ntmps12
  go_wp2
  repeat(go_quiet (fail);try go_wp2)
  go_loopg [5] k (fun kq v5 w'=>∃(fP:Int),v5= .int .i64 fP∧ah (dJ.l0 kq l0 l1 fP=some r)∧ah (kq≤k)∧aT w w')
  case atStart=>exact⟨(0),zs,H',⟨Nat.le_refl _⟩,by repeat(first|exact aT.refl _|apply aT.step)⟩
  case round=>
   clear H'
   try clear c1
   try clear p2
   try clear c3
   try clear c3b0
   try clear c3b1
   try clear c3b2
   obtain⟨fP,rfl,HA,jd,⟨m1,rfl⟩⟩:=hrel
   cases gk with
   |zero=>exact absurd HA.out (by simp[dJ.l0])
   |succ k1=>
    have H:=HA.out
    clear HA
    simp only[dJ.l0]at H
    by_cases c4:fP<(l0.length:Int)
    ·rw[if_pos c4]at H
     have c4b0:=decide_eq_true c4
     clear c4
     by_cases c5:0≤fP
     ·rw[if_pos c5]at H
      have c5b0:=decide_eq_true c5
      clear c5
      by_cases c6:fP<(l1.length:Int)
      ·rw[if_pos c6]at H
       have c6b0:=decide_eq_true c6
       clear c6
       have Xv:=ah.mk H
       clear H
       have ajG:0≤(fP:Int):=of_decide_eq_true za
       have ajH:fP<(l0.length:Int):=of_decide_eq_true za
       obtain⟨aPQ,aL9,aBV,aBW,aBX,aBY⟩:=YW En.out fP ajG ajH
       cases aL9
       replace ajG:=eq_true ajG
       replace ajH:=eq_true ajH
       have ajI:0≤(fP:Int):=of_decide_eq_true za
       have ajJ:fP<(l1.length:Int):=of_decide_eq_true za
       obtain⟨aPR,aLa,aBZ,aC0,aC1,aC2⟩:=YW HR1.out fP ajI ajJ
       cases aLa
       replace ajI:=eq_true ajI
       replace ajJ:=eq_true ajJ
       go_upto_if 25 with(fail)
       repeat(go_quiet (fail);go_upto_if 25 with(fail))
       have H:=Xv.out
       clear Xv
       by_cases c8:(!(((fZ l0 fP).f0)==((fZ l1 fP).f0))||(!(((fZ l0 fP).f1)==((fZ l1 fP).f1))||(!(((fZ l0 fP).f2)==((fZ l1 fP).f2))||(!((((fZ l0 fP).f3).toList)==(((fZ l1 fP).f3).toList))))))=true
       ·rw[if_pos c8]at H
        have c8b0:(!(((fZ l0 fP).f0)==((fZ l1 fP).f0))||(!(((fZ l0 fP).f1)==((fZ l1 fP).f1))||(!(((fZ l0 fP).f2)==((fZ l1 fP).f2))||(!((((fZ l0 fP).f3).toList)==(((fZ l1 fP).f3).toList))))))=true:=c8
        clear c8
        (first|rw[c8b0]|rw[c8b1]|rw[c8b2]|(simp only[gI,iB];rw[c8b0])|skip)
        obtain rfl:=Option.some.inj H
        go_wp2
        repeat(go_quiet (fail);try go_wp2)
        go_ret
        exact⟨zs,by repeat(first|exact aT.refl _|apply aT.step)⟩
       ·rw[if_neg c8]at H
        have c8b0:(!(((fZ l0 fP).f0)==((fZ l1 fP).f0))||(!(((fZ l0 fP).f1)==((fZ l1 fP).f1))||(!(((fZ l0 fP).f2)==((fZ l1 fP).f2))||(!((((fZ l0 fP).f3).toList)==(((fZ l1 fP).f3).toList))))))=false:=by simpa using c8
        clear c8
        (first|rw[c8b0]|rw[c8b1]|rw[c8b2]|(simp only[gI,iB];rw[c8b0])|skip)
        have H':=ah.mk H
        clear H
        go_wp2
        repeat(go_quiet (fail);try go_wp2)
        go_roundg k1
        case measure=>have:=jd.out;omega
        case rel=>exact⟨(wrap64 (fP+1)),zs,H',⟨by have:=jd.out;omega⟩,by repeat(first|exact aT.refl _|apply aT.step)⟩
      ·rw[if_neg c6]at H
       exact absurd H (by simp)
     ·rw[if_neg c5]at H
      exact absurd H (by simp)
    ·rw[if_neg c4]at H
     have c4b0:=decide_eq_false c4
     clear c4
     obtain rfl:=Option.some.inj H
     go_wp2
     repeat(go_quiet (fail);try go_wp2)
     go_ret
     exact⟨zs,by repeat(first|exact aT.refl _|apply aT.step)⟩
 ·skip
  have c3b0:((l0.length:Int)==(l1.length:Int))=false:=beq_eq_false_iff_ne.mpr c3
  have c3b1:((l0.length:Int) != (l1.length:Int))=true:=bne_iff_ne.mpr c3
  have c3b2:(l0.length==l1.length)=false:=by first|simpa using c3|(simp at c3 ⊢;omega)
  obtain rfl:=Option.some.inj H
  go_enter Tryz.func12,Tryz.ntmps12
  go_wp2
  repeat(go_quiet (fail);try go_wp2)
  go_ret
  exact⟨zs,by repeat(first|exact aT.refl _|apply aT.step)⟩
end Go.Proofs.YtokblgdgpnakpaaGreat.PFnEndLess
namespace Go.Proofs.YtokblgdgpnakpaaGreat.Pure
open Go.RowKit Go.Proofs.YtokblgdgpnakpaaGreat.PFnEndLess Go.Proofs.YtokblgdgpnakpaaGreatW.PrintWords Go.Proofs.YtokblgdgpnakpaaGreatW.PrintLast Go.Proofs.YtokblgdgpnakpaaGreatW.PrintMore Go.Proofs.YtokblgdgpnakpaaGreat.Lm
theorem ext_size(b:ByteArray)(m:Nat)(h:m≤b.size):(b.extract m b.size).size=b.size-m:=by rw[ByteArray.size_extract];omega
def vS(b:ByteArray):Int×Bool×Int×ByteArray×Int×Int:=
 if(b.size:Int)<4 then(0,false,0,⟨#[]⟩,0,0)
 else if bt b 0>200∨bt b 2>1 then(0,false,0,⟨#[]⟩,0,-1)
 else if(b.size:Int)<4+bt b 0 then(0,false,0,⟨#[]⟩,0,0)
 else if iR ⟨bt b 1,bt b 2==1,bt b 3,b.extract 4 (4+bt b 0).toNat⟩=true then(bt b 1,bt b 2==1,bt b 3,b.extract 4 (4+bt b 0).toNat,4+bt b 0,1)
 else(0,false,0,⟨#[]⟩,0,-1)
theorem Qv(b:ByteArray):((vS b).2.2.2.2.2=1∧4≤(vS b).2.2.2.2.1∧(vS b).2.2.2.2.1≤(b.size:Int))∨(vS b).2.2.2.2.2≤0:=by
 have h:=iG b 0
 unfold vS
 repeat' split
 all_goals first|(right;dsimp only;omega)|(left;dsimp only;omega)
theorem ajK(b:ByteArray):Ev (fun k=>bL.f k b) (vS b):=by
 have h0:=iG b 0
 have h1:=iG b 1
 have h2:=iG b 2
 have h3:=iG b 3
 have w0:wrap64 (bt b 0)=bt b 0:=dL _ (by omega) (by omega)
 have w1:wrap64 (bt b 1)=bt b 1:=dL _ (by omega) (by omega)
 have w3:wrap64 (bt b 3)=bt b 3:=dL _ (by omega) (by omega)
 have w4:wrap64 (4+bt b 0)=4+bt b 0:=dL _ (by omega) (by omega)
 unfold bL.f
 simp only[w0]
 apply EvQ.ev
 by_cases c0:(b.size:Int)<4
 ·exact EvQ.pos c0 (EvQ.now (by unfold vS;rw[if_pos c0]))
 refine EvQ.neg c0 (EvQ.pos (by omega) ?_)
 have hj:∀t:Bool,(t=true↔(bt b 0>200∨bt b 2>1))→EvQ (fun k=>bL.j0 k b (bt b 0) t) (fun x=>x=vS b):=by
  intro t ht
  refine EvQ.step (fun k=>by rw[bL.j0]) ?_
  simp only[w1,w3,w4]
  by_cases c1:bt b 0>200∨bt b 2>1
  ·exact EvQ.pos (ht.2 c1) (EvQ.now (by unfold vS;rw[if_neg c0,if_pos c1]))
  refine EvQ.neg (fun h=>c1 (ht.1 h)) ?_
  by_cases c2:(b.size:Int)<4+bt b 0
  ·exact EvQ.pos c2 (EvQ.now (by unfold vS;rw[if_neg c0,if_neg c1,if_pos c2]))
  refine EvQ.neg c2 (EvQ.pos (by omega) (EvQ.pos (by omega) (EvQ.pos (by omega) (EvQ.pos (by omega) (EvQ.pos (by omega) (EvQ.bindE (Jd ⟨bt b 1,bt b 2==1,bt b 3,b.extract 4 (4+bt b 0).toNat⟩) ?_))))))
  by_cases c3:iR ⟨bt b 1,bt b 2==1,bt b 3,b.extract 4 (4+bt b 0).toNat⟩=true
  ·exact EvQ.pos c3 (EvQ.now (by unfold vS;rw[if_neg c0,if_neg c1,if_neg c2,if_pos c3]))
  ·exact EvQ.neg c3 (EvQ.now (by unfold vS;rw[if_neg c0,if_neg c1,if_neg c2,if_neg c3]))
 by_cases c1:bt b 0>200
 ·exact EvQ.pos c1 (hj true ⟨fun _=>.inl c1,fun _=>rfl⟩)
 ·exact EvQ.neg c1 (EvQ.pos (by omega) (hj (decide (bt b 2>1)) ⟨fun h=>.inr (of_decide_eq_true h),fun h=>decide_eq_true (h.elim (fun h=>absurd h c1) id)⟩))
theorem ajL(b:ByteArray):Ev (fun k=>bC.f k b) (vS b):=by
 have h0:=iG b 0
 have h1:=iG b 1
 have h2:=iG b 2
 have h3:=iG b 3
 have w0:wrap64 (bt b 0)=bt b 0:=dL _ (by omega) (by omega)
 have w1:wrap64 (bt b 1)=bt b 1:=dL _ (by omega) (by omega)
 have w3:wrap64 (bt b 3)=bt b 3:=dL _ (by omega) (by omega)
 have w4:wrap64 (4+bt b 0)=4+bt b 0:=dL _ (by omega) (by omega)
 unfold bC.f
 simp only[w0,w4]
 apply EvQ.ev
 by_cases c0:(b.size:Int)<4
 ·exact EvQ.pos c0 (EvQ.now (by unfold vS;rw[if_pos c0]))
 refine EvQ.neg c0 (EvQ.pos (by omega) ?_)
 have hj:∀t:Bool,(t=true↔(bt b 0>200∨bt b 2>1))→EvQ (fun k=>bC.j0 k b (4+bt b 0) t) (fun x=>x=vS b):=by
  intro t ht
  refine EvQ.step (fun k=>by rw[bC.j0]) ?_
  simp only[w1,w3]
  by_cases c1:bt b 0>200∨bt b 2>1
  ·exact EvQ.pos (ht.2 c1) (EvQ.now (by unfold vS;rw[if_neg c0,if_pos c1]))
  refine EvQ.neg (fun h=>c1 (ht.1 h)) ?_
  by_cases c2:(b.size:Int)<4+bt b 0
  ·exact EvQ.pos c2 (EvQ.now (by unfold vS;rw[if_neg c0,if_neg c1,if_pos c2]))
  have e:=Q5 ⟨bt b 1,bt b 2==1,bt b 3,b.extract 4 (4+bt b 0).toNat⟩
  dsimp only at e
  refine EvQ.neg c2 (EvQ.pos (by omega) (EvQ.pos (by omega) (EvQ.pos (by omega) (EvQ.pos (by omega) (EvQ.pos (by omega) ?_)))))
  rw[e]
  simp only[Option.bind_some]
  by_cases c3:iR ⟨bt b 1,bt b 2==1,bt b 3,b.extract 4 (4+bt b 0).toNat⟩=true
  ·exact EvQ.pos c3 (EvQ.now (by unfold vS;rw[if_neg c0,if_neg c1,if_neg c2,if_pos c3]))
  ·exact EvQ.neg c3 (EvQ.now (by unfold vS;rw[if_neg c0,if_neg c1,if_neg c2,if_neg c3]))
 by_cases c1:bt b 0>200
 ·exact EvQ.pos c1 (hj true ⟨fun _=>.inl c1,fun _=>rfl⟩)
 ·exact EvQ.neg c1 (EvQ.pos (by omega) (hj (decide (bt b 2>1)) ⟨fun h=>.inr (of_decide_eq_true h),fun h=>decide_eq_true (h.elim (fun h=>absurd h c1) id)⟩))
def DT:Nat→ByteArray→List jS
 |0,_=>[]
 |n+1,b=>if(vS b).2.2.2.2.2=1 then⟨(vS b).1,(vS b).2.1,(vS b).2.2.1,(vS b).2.2.2.1⟩::DT n (b.extract (vS b).2.2.2.2.1.toNat b.size)else []
theorem abx(n:Nat):∀b:ByteArray,4*(DT n b).length≤b.size:=by
 induction n with
 |zero=>intro b;simp[DT]
 |succ n ih=>
  intro b
  unfold DT
  split
  ·rename_i h
   rcases Qv b with⟨_,h1,h2⟩|h1
   ·have h3:=ih (b.extract (vS b).2.2.2.2.1.toNat b.size)
    rw[ext_size _ _ (by omega)]at h3
    rw[List.length_cons]
    omega
   ·omega
  ·simp
theorem ajM(l:List jS)(hl:l.length≤4000000)(d:Nat):∀i:Nat,l.length-i=d→i≤l.length→Ev (fun k=>dJ.l0 k l l i) true:=by
 induction d with
 |zero=>
  intro i hd hi
  exact Ev.step (fun k=>by rw[dJ.l0]) (Ev.neg (by omega) (Ev.now _))
 |succ d ih=>
  intro i hd hi
  refine Ev.step (fun k=>by rw[dJ.l0]) (EvQ.ev (EvQ.pos (by omega) (EvQ.pos (by omega) (EvQ.pos (by omega) (EvQ.neg (by simp) ?_)))))
  rw[dL _ (by omega) (by omega),show((i:Int)+1)=((i+1:Nat):Int) by omega]
  exact EvQ.of_ev (ih (i+1) (by omega) (by omega)) rfl
theorem Ia(l:List jS)(hl:l.length≤4000000):Ev (fun k=>dJ.f k l l) true:=by
 unfold dJ.f
 exact Ev.pos rfl (ajM l hl l.length 0 (by omega) (by omega))
end Go.Proofs.YtokblgdgpnakpaaGreat.Pure
namespace Go.Proofs.YtokblgdgpnakpaaGreat.PFnEndLess
open Go.RowKit Go.Proofs.YtokblgdgpnakpaaGreatW.PrintWords Go.Proofs.YtokblgdgpnakpaaGreatW.PrintLast Go.Proofs.YtokblgdgpnakpaaGreatW.PrintMore Go.Proofs.YtokblgdgpnakpaaGreat.Lm
open Go.Proofs.YtokblgdgpnakpaaGreat.Pure
attribute [local go_sem] bA bn bV bW aW aV bE bF
theorem a3Q{w:World}(b:ByteArray){f0:Int}{f1:Bool}{f2:Int}{f3:ByteArray}{us is:Int}(h:vS b=(f0,f1,f2,f3,us,is)):Calls Tryz.prog 45 #[.string b] w fun e w'=>e= .returned (.tuple #[.agg (fC f0 f1 f2 f3).toArray,.int .i64 us,.int .i64 is])∧Below w.heap.size w w':=by
 obtain⟨k,hk⟩:=ajK b
 rw[h]at hk
 refine(bL.calls k b _ _ _ _ _ _ w (hk k (Nat.le_refl _))).mono ?_
 rintro e w' ⟨rfl,hb⟩
 exact⟨rfl,hb⟩
theorem D6{w:World}(b:ByteArray){f0:Int}{f1:Bool}{f2:Int}{f3:ByteArray}{us is:Int}(h:vS b=(f0,f1,f2,f3,us,is)):Calls Tryz.prog 19 #[.string b] w fun e w'=>e= .returned (.tuple #[.agg (fC f0 f1 f2 f3).toArray,.int .i64 us,.int .i64 is])∧Below w.heap.size w w':=by
 obtain⟨k,hk⟩:=ajL b
 rw[h]at hk
 refine(bC.calls k b _ _ _ _ _ _ w (hk k (Nat.le_refl _))).mono ?_
 rintro e w' ⟨rfl,hb⟩
 exact⟨rfl,hb⟩
def vJ(x:jS):List Value:=fC x.f0 x.f1 x.f2 x.f3
theorem Out.frames{v:Value}{xs:List jS}{R:List nC}{W:World}(h:Out 42 4 v (xs.map vJ) R)(hB:BX R W)(hl:xs.length≤1000000):∃A c,v= .slice A xs.length c∧xs.length≤c∧Kd.C R4 W A xs.length xs:=by
 have hlen:(xs.map vJ).length=xs.length:=by simp
 obtain⟨A,c,rfl,hc⟩:=h.len
 rw[hlen]at h hc ⊢
 refine⟨A,c,rfl,hc,rfl,Nat.le_trans hl (by decide),fun h0=>?_⟩
 obtain⟨k,c',e,_⟩:=h.some (i:=0) (by rw[hlen];exact h0)
 rw[hlen]at e
 injection e with e1 _ _
 subst e1
 refine⟨_,rfl,fun j p hp=>⟨vJ p,rfl,YV W p,fun i u hu=>?_⟩⟩
 rw[Addr.add_mid,Nat.zero_add]
 exact h.get hB (by rw[List.getElem?_map,hp];rfl) i u hu
theorem wW{n:Nat}{b:ByteArray}(hb:b.size≤n){xs all:List jS}(h:xs++DT n b=all){f0:Int}{f1:Bool}{f2:Int}{f3:ByteArray}{us is:Int}(hr:vS b=(f0,f1,f2,f3,us,is)):(is=1∧0≤us∧us≤(b.size:Int)∧(b.extract us.toNat b.size).size+4≤b.size∧(xs++[⟨f0,f1,f2,f3⟩])++DT (n-1) (b.extract us.toNat b.size)=all)∨(is≤0∧xs=all):=by
 have hc:=Qv b
 rw[hr]at hc
 dsimp only at hc
 rcases hc with⟨h0,h1,h2⟩|h1
 ·refine .inl ⟨h0,by omega,h2,by rw[ext_size _ _ (by omega)];omega,?_⟩
  obtain⟨n,rfl⟩:∃m,n=m+1:=⟨n-1,by omega⟩
  unfold DT at h
  rw[hr]at h
  dsimp only at h
  rw[if_pos h0]at h
  rw[←h,List.append_assoc]
  rfl
 ·refine .inr ⟨h1,?_⟩
  rw[←h]
  cases n with
  |zero=>simp[DT]
  |succ n=>unfold DT;rw[hr];dsimp only;rw[if_neg (by omega),List.append_nil]
theorem ajN{w:World}(a lo hi:Int){r:Bool}(hr:decide (lo≤a∧a≤hi)=r):Calls Tryz.prog 44 #[.int .i64 a,.int .i64 lo,.int .i64 hi] w fun e w'=>e= .returned (.bool r)∧Below w.heap.size w w':=by
 refine(cK.calls a lo hi r w ((uV a lo hi).trans (congrArg some hr))).mono ?_
 rintro e w' ⟨rfl,hd⟩
 obtain⟨k,rfl⟩:=hd.out
 exact⟨rfl,dY (Below.refl _ _) k⟩
theorem ajO{w:World}(a lo hi:Int){r:Bool}(hr:decide (lo≤a∧a≤hi)=r):Calls Tryz.prog 43 #[.int .i64 a,.int .i64 lo,.int .i64 hi] w fun e w'=>e= .returned (.bool r)∧Below w.heap.size w w':=by
 refine(eZ.calls a lo hi r w ((Gx a lo hi).trans (congrArg some hr))).mono ?_
 rintro e w' ⟨rfl,hd⟩
 obtain⟨k,rfl⟩:=hd.out
 exact⟨rfl,dY (Below.refl _ _) k⟩
theorem Out.frlen{v:Value}{xs:List jS}{R:List nC}(h:Out 42 4 v (xs.map vJ) R):∃A c,v= .slice A xs.length c∧xs.length≤c:=by
 obtain⟨A,c,rfl,hc⟩:=h.len
 rw[List.length_map]at hc ⊢
 exact⟨A,c,rfl,hc⟩
theorem D7{w:World}{v1 v2:Value}{xs:List jS}{R1 R2:List nC}(h1:Out 42 4 v1 (xs.map vJ) R1)(h2:Out 42 4 v2 (xs.map vJ) R2)(b1:BX R1 w)(b2:BX R2 w)(hl:xs.length≤1000000):Calls Tryz.prog 12 #[v1,v2] w fun e w'=>e= .returned (.bool true)∧Below w.heap.size w w':=by
 obtain⟨A1,c1,rfl,q1,C1⟩:=h1.frames b1 hl
 obtain⟨A2,c2,rfl,q2,C2⟩:=h2.frames b2 hl
 obtain⟨k,hk⟩:=Ia xs (by omega)
 refine(dJ.calls k A1 c1 xs A2 c2 xs true w C1 q1 C2 q2 (hk k (Nat.le_refl _))).mono ?_
 rintro e w' ⟨rfl,hd⟩
 obtain⟨k,rfl⟩:=hd.out
 exact⟨rfl,dY (Below.refl _ _) k⟩
theorem BX.l{R1 R2:List nC}{W:World}(h:BX (R1++R2) W):BX R1 W:=fun x hx=>h x (List.mem_append_left _ hx)
theorem BX.r{R1 R2:List nC}{W:World}(h:BX (R1++R2) W):BX R2 W:=fun x hx=>h x (List.mem_append_right _ hx)
theorem Qw{n i:Nat}{b:ByteArray}(hb:b.size≤n){all:List jS}(h:all.drop i=DT n b){f0:Int}{f1:Bool}{f2:Int}{f3:ByteArray}{us is:Int}(hr:vS b=(f0,f1,f2,f3,us,is)):(i<all.length→is=1∧0≤us∧us≤(b.size:Int)∧(b.extract us.toNat b.size).size+4≤b.size∧all[i]?=some ⟨f0,f1,f2,f3⟩∧all.drop (i+1)=DT (n-1) (b.extract us.toNat b.size))∧(all.length≤i→is≤0):=by
 rcases wW hb (xs:=[]) (List.nil_append _) hr with⟨h1,h2,h3,h4,h5⟩|⟨h1,h2⟩
 ·rw[←h]at h5
  refine⟨fun hi=>⟨h1,h2,h3,h4,?_,?_⟩,fun hi=>?_⟩
  ·have:=congrArg (fun l=>l[0]?) h5
   simpa using this.symm
  ·have:=congrArg (List.drop 1) h5
   rw[List.drop_drop]at this
   simpa using this.symm
  ·rw[List.drop_eq_nil_of_le hi]at h5
   simp at h5
 ·refine⟨fun hi=>?_,fun _=>h1⟩
  rw[←h2]at h
  have:=congrArg List.length h
  rw[List.length_drop]at this
  simp at this
  omega
def Tx(w:World)(N:Nat):Ending→World→Prop:=fun e w'=>∃x0 v1 x2 v3 x4 x5 v6 x7 x8 v9 x10 y0 u1 y2 u3 y4 y5 u6 y7 y8 u9 oH s t way,e= .returned (.tuple #[.agg (wC x0 v1 x2 v3 x4 x5 v6 x7 x8 v9 x10 y0 u1 y2 u3 y4 y5 u6 y7 y8 u9 oH s t).toArray,.int .i64 way])∧DR w.heap.size w' N v1 v3 x5 v6 v9∧DR w.heap.size w' N u1 u3 y5 u6 u9∧(s.size≤900∧t.size≤900)∧Below w.heap.size w w'
theorem Tx.out{w w':World}{N:Nat}{e:Ending}(h:Tx w N e w'):∃x0 v1 x2 v3 x4 x5 v6 x7 x8 v9 x10 y0 u1 y2 u3 y4 y5 u6 y7 y8 u9 oH s t way,e= .returned (.tuple #[.agg (wC x0 v1 x2 v3 x4 x5 v6 x7 x8 v9 x10 y0 u1 y2 u3 y4 y5 u6 y7 y8 u9 oH s t).toArray,.int .i64 way])∧DR w.heap.size w' N v1 v3 x5 v6 v9∧DR w.heap.size w' N u1 u3 y5 u6 u9∧(s.size≤900∧t.size≤900)∧Below w.heap.size w w':=h
def Hf(wo iw:Bool)(way:Int)(x5 y5 su sd:ByteArray):List jS:=if wo=true∧iw=true then DT 2000 (if way=1 then x5++sd else y5++su)else []
theorem D8{x5 y5 su sd:ByteArray}{all:List jS}(h:Hf true true 1 x5 y5 su sd=all):DT 2000 (x5++sd)=all:=by
 rw[←h];unfold Hf;rw[if_pos ⟨rfl,rfl⟩,if_pos rfl]
theorem D9{way:Int}{x5 y5 su sd:ByteArray}{all:List jS}(h:Hf true true way x5 y5 su sd=all)(hw:¬way=1):DT 2000 (y5++su)=all:=by
 rw[←h];unfold Hf;rw[if_pos ⟨rfl,rfl⟩,if_neg hw]
theorem M4{wo iw:Bool}{way:Int}{x5 y5 su sd:ByteArray}{all:List jS}(h:Hf wo iw way x5 y5 su sd=all)(hn:(wo&&iw)=false):[]=all:=by
 rw[←h];unfold Hf;rw[if_neg (by cases wo<;>cases iw<;>simp_all)]
theorem Yr{wo iw:Bool}{way:Int}{x5 y5 su sd:ByteArray}{all:List jS}(h:Hf wo iw way x5 y5 su sd=all)(h1:x5.size≤900)(h2:y5.size≤900)(h3:su.size≤1000)(h4:sd.size≤1000):all.length≤1000000:=by
 subst h
 unfold Hf
 split
 ·have:=abx 2000 (if way=1 then x5++sd else y5++su)
  have h5:(if way=1 then x5++sd else y5++su).size≤2000:=by split<;>(rw[aK];omega)
  omega
 ·exact Nat.zero_le _
def fw.T8:Bool×List (List Nat×List Nat):=(true,[([],[]),([],[]),([],[]),([2],[2]),([3],[3]),([4],[4]),([1,5],[1,5]),([0,3,0],[0]),([6,7,0,1,2,3,4,5,6,7],[6])])
def fw.B8:List Nat:=[0,0,0,4,12,28,62,13,255]
theorem fw.tab8:jG .any (opsOf Tryz.f15 8)=fw.T8:=by kernel_rfl
theorem fw.bits8:fQ fw.T8.2 fw.B8=true:=by kernel_rfl
theorem zA{b:Nat}{w:World}{A:Option Addr}{c:Nat}{l:List Int}(hl:Bytes l)(hbe:b=w.heap.size)(hr:Kd.C (Kd.int .u8) w A l.length l)(hc:l.length≤c):Calls Tryz.prog 15 #[.slice A l.length c] w (Tx w 42000):=by
 have hb0:b≤w.heap.size:=by omega
 have hw:TW b rE w:=.none _ _
 have kQ:=ah.mk hw
 have hB0:=Below.refl w.heap.size w
 have HW:ah (LW b NX rE w [] (fun _ _=>True) rE w):=⟨LW.start hw trivial (Mon.top _)⟩
 clear hw
 go_enter Tryz.func15,Tryz.ntmps15
 go_upto_if 16 with(first|((with_reducible refine gd 2 rfl ?_);refine lbx (N:=2) (t:=47) HW zW ?_;clear HW;intro g2 pJ HW)|((with_reducible refine gq 20 rfl ?_);refine gl (some 8) Tryz.func20 #[(.slice A l.length c)] ?_;with_reducible refine(aad hl (HW.out.underN hbe hB0 kQ.out) hr hc).mono ?_;rintro e Cv ⟨g,vM,lr,rfl,nL,hv0,ab6,arh,ari,hb⟩;refine⟨_,rfl,?_⟩;have hR:RB b w g lr:=⟨hbe,by omega,arh,ari⟩;have HN:=ah.mk (HW.out.pushR hb nL (by intro x hx;simp only[List.mem_cons,List.not_mem_nil,or_false]at hx;rcases hx with rfl;exact(by decide:(47:Nat)≠75)) (fun _ h=>h) ab6);replace HW:=HN;clear HN hb nL ab6 arh ari)|((with_reducible refine gq 21 rfl ?_);refine gl (some 10) Tryz.func21 #[(.pointer (some ⟨g,0,none⟩))] ?_;with_reducible refine(Qt HW.out.ts.tw (HW.out.hb hb0) hR (HW.out.underN hbe hB0 kQ.out) (HW.out.at 0 rfl) (HW.out.noM 0 rfl) hv0 (by decide) (by omega)).mono ?_;rintro e zi h_;obtain⟨E_,M_104,aLb,aLc,rfl,iI,hE_⟩:=h_.out;refine⟨_,rfl,?_⟩;obtain⟨Cz,v1_,CJ,v3_,CQ,CR,v6_,CW,CX,v9_,yc,M5,u1_,M6,u3_,M7,M8,u6_,M9,Ma,u9_,Fh,vv,oo,rfl,hF_,hG_,aC3,aC4⟩:=hE_.out;clear hE_;obtain⟨CB,CF,CG,CK,CO,CP,CS,CU,CV,CY,CZ,D5,rfl,rfl,rfl,rfl,X0,X3⟩:=hF_.form4;obtain⟨Mc,Md,Me,Mf,Mg,Mh,Mi,Mj,Mk,Ml,Mr,Ms,rfl,rfl,rfl,rfl,aC5,aC6⟩:=hG_.form4;refine rtg HW 0 iI rfl ?_;clear HW iI;intro HW aby abz aC7;replace HW:=ah.mk ((HW.out.ed hF_).ed hG_);clear hF_ hG_)|((with_reducible refine gd 5 rfl ?_);refine lbx (N:=5) (t:=47) HW zW ?_;clear HW;intro g5 I7 HW)|((with_reducible refine gt 47 5 rfl ?_);refine iC HW 0 ?_;clear HW;intro zl HW)|((with_reducible refine gq 22 rfl ?_);refine gl (some 12) Tryz.func22 #[(.pointer (some ⟨g,0,none⟩)),(.int .i64 2)] ?_;with_reducible refine(jc 2 hR (HW.out.underN hbe hB0 kQ.out) (HW.out.at 1 rfl) aby abz (by omega) (by omega)).mono ?_;rintro e zn ⟨aPS,ahe,ahf,rfl,ajP,ajQ,iI⟩;refine⟨_,rfl,?_⟩;refine Br HW 1 iI rfl ?_;clear HW iI;intro HW xY xZ aal;have aLd:=eq_true ajP;have aLe:=eq_true ajQ)|((with_reducible refine gd 14 rfl ?_);refine lls HW 0 22 _ Tryz.underlying9 ?_))
 by_cases vQ:(vv.size:Int)=0
 ·skip
  have Bv:((vv.size:Int)==0)=true:=beq_iff_eq.mpr vQ
  have arj:((vv.size:Int) != 0)=false:=bne_eq_false_iff_eq.mpr vQ
  have aPT:=ah.mk vQ
  clear vQ
  go_upto_if 20 with(first|((with_reducible refine gd 18 rfl ?_);refine lls HW 0 23 _ Tryz.underlying9 ?_))
  by_cases uy:(oo.size:Int)=0
  ·skip
   have GN:((oo.size:Int)==0)=true:=beq_iff_eq.mpr uy
   have a2D:((oo.size:Int) != 0)=false:=bne_eq_false_iff_eq.mpr uy
   have aPU:=ah.mk uy
   clear uy
   go_upto_region 8 with(fail)
   refine Ws HW [⟨g5,wC Cz (.slice CB CF CG) CJ (.slice CK CO CP) CQ CR (.slice CS CU CV) CW CX (.slice CY CZ D5) yc M5 (.slice Mc Md Me) M6 (.slice Mf Mg Mh) M7 M8 (.slice Mi Mj Mk) M9 Ma (.slice Ml Mr Ms) Fh vv oo,47⟩] (fun _ h=>(BX.cons (h.at 0 rfl) (BX.nil _))) (fun _=>True) [7] 9 (trivial) (fun Ef HN hHeld=>?_)
   replace HW:=HN
   clear HN
   refine bK fw.tab8 fw.bits8 (fun HT_ HW_=>?_)
   refine tk 0 (some 21) (bm 9 1) rfl rfl hHeld ?_ (hy:=Wp _ 0 0 (wC _ _ _ _ _ _ _ _ _ _ _ _ _ _ _ _ _ _ _ _ _ _ _ _) Tryz.underlying47)
   refine pw 1 ?_
   refine pw 2 ?_
   refine on 3 (bm 9 15) fun K hK=>?_
   refine gs Tryz.func22 #[(.pointer (some ⟨g,0,none⟩)),(.int .i64 20)] ?_
   with_reducible refine(jc 20 hR (HW.out.underN hbe hB0 kQ.out) (HW.out.at 1 rfl) xY xZ (by omega) (by omega)).mono ?_
   rintro e Eg ⟨Qu,ajy,ajz,rfl,Tv,Tw,iI⟩
   refine⟨_,rfl,?_⟩
   refine Br HW 1 iI rfl ?_
   clear HW iI
   intro HW X9 Xa abq
   have ajA:=eq_true Tv
   have ajB:=eq_true Tw
   refine hK.out _ _ ⟨(BX.cons (HW.out.at 0 rfl) (BX.nil _)),trivial⟩ (fun hHeld=>?_)
   clear hK K
   refine nm ?_
   refine pw 4 ?_
   refine pw 5 ?_
   refine pw 6 ?_
   refine la 7 (bm 9 255) fun K hK=>?_
   refine jX (by rfl) ?_
   refine rA HW 2 0 (.agg (wC _ _ _ _ _ _ _ _ _ _ _ _ _ _ _ _ _ _ _ _ _ _ _ _).toArray) (wC _ _ _ _ _ _ _ _ _ _ _ _ _ _ _ _ _ _ _ _ _ _ _ _) (wC _ _ _ _ _ _ _ _ _ _ _ _ _ _ _ _ _ _ _ _ _ _ _ _) ?_ (gF rfl)
   clear HW
   intro I8 HW
   refine hK.out _ _ ?_
   clear hK K
   refine pw 8 ?_
   refine dn ?_
   clear HT_ HW_
   go_wp2_with (fail)
   refine LA HW 2 Tryz.underlying47 ?_
   subst hbe
   exact⟨_,_,_,_,_,_,_,_,_,_,_,_,_,_,_,_,_,_,_,_,_,_,_,_,_,rfl,ED.dr (M:=_) ⟨HW.out.g.1.2.t1,HW.out.g.1.2.t3,HW.out.g.1.2.c5,(HW.out.g.1.2.s6.mono (N':=42000) (by omega)),(HW.out.g.1.2.s9.mono (N':=42000) (by omega))⟩ HW.out.ts.tw,ED.dr (M:=_) ⟨HW.out.g.2.t1,HW.out.g.2.t3,HW.out.g.2.c5,(HW.out.g.2.s6.mono (N':=42000) (by omega)),(HW.out.g.2.s9.mono (N':=42000) (by omega))⟩ HW.out.ts.tw,⟨(by omega),(by omega)⟩,HW.out.underN rfl hB0 kQ.out⟩
  ·skip
   have GN:((oo.size:Int)==0)=false:=beq_eq_false_iff_ne.mpr uy
   have a2D:((oo.size:Int) != 0)=true:=bne_iff_ne.mpr uy
   go_upto_region 8 with(fail)
   refine Ws HW [⟨g5,wC Cz (.slice CB CF CG) CJ (.slice CK CO CP) CQ CR (.slice CS CU CV) CW CX (.slice CY CZ D5) yc M5 (.slice Mc Md Me) M6 (.slice Mf Mg Mh) M7 M8 (.slice Mi Mj Mk) M9 Ma (.slice Ml Mr Ms) Fh vv oo,47⟩] (fun _ h=>(BX.cons (h.at 0 rfl) (BX.nil _))) (fun _=>True) [7] 9 (trivial) (fun yh HN hHeld=>?_)
   replace HW:=HN
   clear HN
   refine bK fw.tab8 fw.bits8 (fun HT_ HW_=>?_)
   refine tk 0 (some 21) (bm 9 1) rfl rfl hHeld ?_ (hy:=Wp _ 0 0 (wC _ _ _ _ _ _ _ _ _ _ _ _ _ _ _ _ _ _ _ _ _ _ _ _) Tryz.underlying47)
   refine pw 1 ?_
   refine pw 2 ?_
   refine on 3 (bm 9 15) fun K hK=>?_
   refine gs Tryz.func22 #[(.pointer (some ⟨g,0,none⟩)),(.int .i64 20)] ?_
   with_reducible refine(jc 20 hR (HW.out.underN hbe hB0 kQ.out) (HW.out.at 1 rfl) xY xZ (by omega) (by omega)).mono ?_
   rintro e vP ⟨aPV,aLf,aLg,rfl,ajR,ajS,iI⟩
   refine⟨_,rfl,?_⟩
   refine Br HW 1 iI rfl ?_
   clear HW iI
   intro HW aC8 aC9 aCa
   have aLh:=eq_true ajR
   have aLi:=eq_true ajS
   refine hK.out _ _ ⟨(BX.cons (HW.out.at 0 rfl) (BX.nil _)),trivial⟩ (fun hHeld=>?_)
   clear hK K
   refine nm ?_
   refine pw 4 ?_
   refine pw 5 ?_
   refine pw 6 ?_
   refine la 7 (bm 9 255) fun K hK=>?_
   refine jX (by rfl) ?_
   refine rA HW 2 0 (.agg (wC _ _ _ _ _ _ _ _ _ _ _ _ _ _ _ _ _ _ _ _ _ _ _ _).toArray) (wC _ _ _ _ _ _ _ _ _ _ _ _ _ _ _ _ _ _ _ _ _ _ _ _) (wC _ _ _ _ _ _ _ _ _ _ _ _ _ _ _ _ _ _ _ _ _ _ _ _) ?_ (gF rfl)
   clear HW
   intro uZ HW
   refine hK.out _ _ ?_
   clear hK K
   refine pw 8 ?_
   refine dn ?_
   clear HT_ HW_
   go_wp2_with (fail)
   refine LA HW 2 Tryz.underlying47 ?_
   subst hbe
   exact⟨_,_,_,_,_,_,_,_,_,_,_,_,_,_,_,_,_,_,_,_,_,_,_,_,_,rfl,ED.dr (M:=_) ⟨HW.out.g.1.2.t1,HW.out.g.1.2.t3,HW.out.g.1.2.c5,(HW.out.g.1.2.s6.mono (N':=42000) (by omega)),(HW.out.g.1.2.s9.mono (N':=42000) (by omega))⟩ HW.out.ts.tw,ED.dr (M:=_) ⟨HW.out.g.2.t1,HW.out.g.2.t3,HW.out.g.2.c5,(HW.out.g.2.s6.mono (N':=42000) (by omega)),(HW.out.g.2.s9.mono (N':=42000) (by omega))⟩ HW.out.ts.tw,⟨(by omega),(by omega)⟩,HW.out.underN rfl hB0 kQ.out⟩
 ·skip
  have Bv:((vv.size:Int)==0)=false:=beq_eq_false_iff_ne.mpr vQ
  have arj:((vv.size:Int) != 0)=true:=bne_iff_ne.mpr vQ
  go_upto_if 20 with(first|((with_reducible refine gd 18 rfl ?_);refine lls HW 0 23 _ Tryz.underlying9 ?_))
  by_cases sW:(oo.size:Int)=0
  ·skip
   have Qf:((oo.size:Int)==0)=true:=beq_iff_eq.mpr sW
   have Qg:((oo.size:Int) != 0)=false:=bne_eq_false_iff_eq.mpr sW
   have ar5:=ah.mk sW
   clear sW
   go_upto_region 8 with(fail)
   refine Ws HW [⟨g5,wC Cz (.slice CB CF CG) CJ (.slice CK CO CP) CQ CR (.slice CS CU CV) CW CX (.slice CY CZ D5) yc M5 (.slice Mc Md Me) M6 (.slice Mf Mg Mh) M7 M8 (.slice Mi Mj Mk) M9 Ma (.slice Ml Mr Ms) Fh vv oo,47⟩] (fun _ h=>(BX.cons (h.at 0 rfl) (BX.nil _))) (fun _=>True) [7] 9 (trivial) (fun zu HN hHeld=>?_)
   replace HW:=HN
   clear HN
   refine bK fw.tab8 fw.bits8 (fun HT_ HW_=>?_)
   refine tk 0 (some 21) (bm 9 1) rfl rfl hHeld ?_ (hy:=Wp _ 0 0 (wC _ _ _ _ _ _ _ _ _ _ _ _ _ _ _ _ _ _ _ _ _ _ _ _) Tryz.underlying47)
   refine pw 1 ?_
   refine pw 2 ?_
   refine on 3 (bm 9 15) fun K hK=>?_
   refine gs Tryz.func22 #[(.pointer (some ⟨g,0,none⟩)),(.int .i64 20)] ?_
   with_reducible refine(jc 20 hR (HW.out.underN hbe hB0 kQ.out) (HW.out.at 1 rfl) xY xZ (by omega) (by omega)).mono ?_
   rintro e Cr ⟨aq8,ahk,ahl,rfl,SI,SK,iI⟩
   refine⟨_,rfl,?_⟩
   refine Br HW 1 iI rfl ?_
   clear HW iI
   intro HW WI WJ aas
   have ahm:=eq_true SI
   have ahn:=eq_true SK
   refine hK.out _ _ ⟨(BX.cons (HW.out.at 0 rfl) (BX.nil _)),trivial⟩ (fun hHeld=>?_)
   clear hK K
   refine nm ?_
   refine pw 4 ?_
   refine pw 5 ?_
   refine pw 6 ?_
   refine la 7 (bm 9 255) fun K hK=>?_
   refine jX (by rfl) ?_
   refine rA HW 2 0 (.agg (wC _ _ _ _ _ _ _ _ _ _ _ _ _ _ _ _ _ _ _ _ _ _ _ _).toArray) (wC _ _ _ _ _ _ _ _ _ _ _ _ _ _ _ _ _ _ _ _ _ _ _ _) (wC _ _ _ _ _ _ _ _ _ _ _ _ _ _ _ _ _ _ _ _ _ _ _ _) ?_ (gF rfl)
   clear HW
   intro Eh HW
   refine hK.out _ _ ?_
   clear hK K
   refine pw 8 ?_
   refine dn ?_
   clear HT_ HW_
   go_wp2_with (fail)
   refine LA HW 2 Tryz.underlying47 ?_
   subst hbe
   exact⟨_,_,_,_,_,_,_,_,_,_,_,_,_,_,_,_,_,_,_,_,_,_,_,_,_,rfl,ED.dr (M:=_) ⟨HW.out.g.1.2.t1,HW.out.g.1.2.t3,HW.out.g.1.2.c5,(HW.out.g.1.2.s6.mono (N':=42000) (by omega)),(HW.out.g.1.2.s9.mono (N':=42000) (by omega))⟩ HW.out.ts.tw,ED.dr (M:=_) ⟨HW.out.g.2.t1,HW.out.g.2.t3,HW.out.g.2.c5,(HW.out.g.2.s6.mono (N':=42000) (by omega)),(HW.out.g.2.s9.mono (N':=42000) (by omega))⟩ HW.out.ts.tw,⟨(by omega),(by omega)⟩,HW.out.underN rfl hB0 kQ.out⟩
  ·skip
   have Qf:((oo.size:Int)==0)=false:=beq_eq_false_iff_ne.mpr sW
   have Qg:((oo.size:Int) != 0)=true:=bne_iff_ne.mpr sW
   go_upto_region 8 with(fail)
   refine Ws HW [⟨g5,wC Cz (.slice CB CF CG) CJ (.slice CK CO CP) CQ CR (.slice CS CU CV) CW CX (.slice CY CZ D5) yc M5 (.slice Mc Md Me) M6 (.slice Mf Mg Mh) M7 M8 (.slice Mi Mj Mk) M9 Ma (.slice Ml Mr Ms) Fh vv oo,47⟩] (fun _ h=>(BX.cons (h.at 0 rfl) (BX.nil _))) (fun _=>True) [7] 9 (trivial) (fun GJ HN hHeld=>?_)
   replace HW:=HN
   clear HN
   refine bK fw.tab8 fw.bits8 (fun HT_ HW_=>?_)
   refine tk 0 (some 21) (bm 9 1) rfl rfl hHeld ?_ (hy:=Wp _ 0 0 (wC _ _ _ _ _ _ _ _ _ _ _ _ _ _ _ _ _ _ _ _ _ _ _ _) Tryz.underlying47)
   refine pw 1 ?_
   refine pw 2 ?_
   refine on 3 (bm 9 15) fun K hK=>?_
   refine gs Tryz.func22 #[(.pointer (some ⟨g,0,none⟩)),(.int .i64 20)] ?_
   with_reducible refine(jc 20 hR (HW.out.underN hbe hB0 kQ.out) (HW.out.at 1 rfl) xY xZ (by omega) (by omega)).mono ?_
   rintro e LF ⟨aPW,aLj,aLk,rfl,ajT,ajU,iI⟩
   refine⟨_,rfl,?_⟩
   refine Br HW 1 iI rfl ?_
   clear HW iI
   intro HW aCb aCc aCd
   have aLl:=eq_true ajT
   have aLm:=eq_true ajU
   refine hK.out _ _ ⟨(BX.cons (HW.out.at 0 rfl) (BX.nil _)),trivial⟩ (fun hHeld=>?_)
   clear hK K
   refine nm ?_
   refine pw 4 ?_
   refine pw 5 ?_
   refine pw 6 ?_
   refine la 7 (bm 9 255) fun K hK=>?_
   refine jX (by rfl) ?_
   refine rA HW 2 0 (.agg (wC _ _ _ _ _ _ _ _ _ _ _ _ _ _ _ _ _ _ _ _ _ _ _ _).toArray) (wC _ _ _ _ _ _ _ _ _ _ _ _ _ _ _ _ _ _ _ _ _ _ _ _) (wC _ _ _ _ _ _ _ _ _ _ _ _ _ _ _ _ _ _ _ _ _ _ _ _) ?_ (gF rfl)
   clear HW
   intro ah7 HW
   refine hK.out _ _ ?_
   clear hK K
   refine pw 8 ?_
   refine dn ?_
   clear HT_ HW_
   go_wp2_with (fail)
   refine LA HW 2 Tryz.underlying47 ?_
   subst hbe
   exact⟨_,_,_,_,_,_,_,_,_,_,_,_,_,_,_,_,_,_,_,_,_,_,_,_,_,rfl,ED.dr (M:=_) ⟨HW.out.g.1.2.t1,HW.out.g.1.2.t3,HW.out.g.1.2.c5,(HW.out.g.1.2.s6.mono (N':=42000) (by omega)),(HW.out.g.1.2.s9.mono (N':=42000) (by omega))⟩ HW.out.ts.tw,ED.dr (M:=_) ⟨HW.out.g.2.t1,HW.out.g.2.t3,HW.out.g.2.c5,(HW.out.g.2.s6.mono (N':=42000) (by omega)),(HW.out.g.2.s9.mono (N':=42000) (by omega))⟩ HW.out.ts.tw,⟨(by omega),(by omega)⟩,HW.out.underN rfl hB0 kQ.out⟩
theorem ajV{w:World}{v1 v3 v6 v9 u1 u3 u6 u9:Value}{l1 l3 k1 k3:List bf}{l6 k6:List uF}{l9 k9:List jS}{x0 x10 y0 oH ex ey:Bool}{x2 x4 x7 x8 y2 y4 y7 y8:Int}{x5 y5 su sd:ByteArray}(hE:I6 w v1 l1 v3 l3 v6 l6 v9 l9)(hs:SmE l1 l3 x5 l6 l9)(hx:vG x0 l1 x2 l3 x4 x5 l6 x7 x8 l9=ex)(hF:I6 w u1 k1 u3 k3 u6 k6 u9 k9)(hs2:SmE k1 k3 y5 k6 k9)(hy:vG y0 k1 y2 k3 y4 y5 k6 y7 y8 k9=ey){way:Int}{wo iw:Bool}{all:List jS}(hwo:(ex&&(ey&&(!x0&&(y0&&(decide ((su.size:Int)≤800)&&decide ((sd.size:Int)≤800))))))=wo)(hiw:decide (0≤way∧way≤1)=iw)(hall:Hf wo iw way x5 y5 su sd=all)(h5:x5.size≤900∧y5.size≤900∧su.size≤1000∧sd.size≤1000):Calls Tryz.prog 16 #[.agg (wC x0 v1 x2 v3 x4 x5 v6 x7 x8 v9 x10 y0 u1 y2 u3 y4 y5 u6 y7 y8 u9 oH su sd).toArray,.int .i64 way] w fun e w'=>∃v R,e= .returned v∧LW w.heap.size NX rE w R (fun _ _=>True) rE w'∧Out 42 4 v (all.map vJ) R:=by
 obtain⟨b,hbe⟩:∃b,b=w.heap.size:=⟨_,rfl⟩
 have hw:TW b rE w:=.none _ _
 obtain⟨A1,c1,e_,_⟩:=hE.r1
 subst e_
 obtain⟨A3,c3,e_,_⟩:=hE.r3
 subst e_
 obtain⟨A6,c6,e_,_⟩:=hE.r6
 subst e_
 obtain⟨A9,c9,e_,_⟩:=hE.r9
 subst e_
 obtain⟨B1,d1,e_,_⟩:=hF.r1
 subst e_
 obtain⟨B3,d3,e_,_⟩:=hF.r3
 subst e_
 obtain⟨B6,d6,e_,_⟩:=hF.r6
 subst e_
 obtain⟨B9,d9,e_,_⟩:=hF.r9
 subst e_
 have hX:=ah.mk hx
 have hY:=ah.mk hy
 clear hx hy
 obtain⟨h5a_,h5b_,h5c_,h5d_⟩:=h5
 have HW:ah (LW b NX rE w [] (fun _ _=>True) rE w):=⟨LW.start hw trivial (Mon.top _)⟩
 clear hw
 go_enter Tryz.func16,Tryz.ntmps16
 go_upto_region 1 with(first|((with_reducible refine gd 2 rfl ?_);refine lbx (N:=2) (t:=47) HW (wC x0 (.slice A1 l1.length c1) x2 (.slice A3 l3.length c3) x4 x5 (.slice A6 l6.length c6) x7 x8 (.slice A9 l9.length c9) x10 y0 (.slice B1 k1.length d1) y2 (.slice B3 k3.length d3) y4 y5 (.slice B6 k6.length d6) y7 y8 (.slice B9 k9.length d9) oH su sd) ?_;clear HW;intro g2 pJ HW))
 cases wo with
 |true=>
  go_upto_if 17 with(first|((with_reducible refine gd 10 rfl ?_);refine vO HW 0 0 ?_)|((with_reducible refine gq 42 rfl ?_);refine gl (some 11) Tryz.func42 #[(.agg (wC _ _ _ _ _ _ _ _ _ _ _ _ _ _ _ _ _ _ _ _ _ _ _ _).toArray)] ?_;with_reducible refine(Js (hE.below (HW.out.underN hbe (Below.refl _ _) (.none _ _))) hs hX.out (hF.below (HW.out.underN hbe (Below.refl _ _) (.none _ _))) hs2 hY.out hwo).mono ?_;rintro e Ee ⟨rfl,hb⟩;refine⟨_,rfl,?_⟩;replace HW:=ah.mk (HW.out.quiet hb);clear hb)|(go_at_call 43;with_reducible refine(ajO _ _ _ hiw).mono ?_;rintro e zi ⟨rfl,hb⟩;replace HW:=ah.mk (HW.out.quiet hb);clear hb))
  cases iw with
  |true=>
   go_upto_region 3 with(fail)
   have ark:(y5++su).size=y5.size+su.size:=aK _ _
   have abr:(x5++sd).size=x5.size+sd.size:=aK _ _
   have I9:(9223372036854775807<y5.size+su.size)=False:=eq_false (by omega)
   have ae2:(9223372036854775807<x5.size+sd.size)=False:=eq_false (by omega)
   go_upto_if 25 with(first|((with_reducible refine gd 20 rfl ?_);refine lls HW 0 16 _ Tryz.underlying9 ?_)|((with_reducible refine gd 22 rfl ?_);refine lls HW 0 22 _ Tryz.underlying9 ?_))
   by_cases c107:way=1
   ·skip
    subst c107
    replace hall:DT 2000 (x5++sd)=all:=by first|exact D8 hall|exact D9 hall (by assumption)
    go_wp2_with (first|((with_reducible refine gd 28 rfl ?_);refine lls HW 0 5 _ Tryz.underlying9 ?_)|((with_reducible refine gd 30 rfl ?_);refine lls HW 0 23 _ Tryz.underlying9 ?_))
    (try rw[show(way==1)=false from beq_eq_false_iff_ne.mpr (by assumption)])
    go_loopg [5,6] (2000) (fun kq y5_ y6_ wq=>∃(nq:Nat)(vq:Value)(xs:List jS)(Rq:List nC)(bq:ByteArray),(y6_=vq)∧(y5_= .string bq)∧ah (nq≤kq∧bq.size≤nq∧xs++DT nq bq=all∧Out 42 4 vq (xs.map vJ) Rq∧xs.length+bq.size≤2000)∧ah (LW b NX rE w (⟨g2,wC x0 (.slice A1 l1.length c1) x2 (.slice A3 l3.length c3) x4 x5 (.slice A6 l6.length c6) x7 x8 (.slice A9 l9.length c9) x10 y0 (.slice B1 k1.length d1) y2 (.slice B3 k3.length d3) y4 y5 (.slice B6 k6.length d6) y7 y8 (.slice B9 k9.length d9) oH su sd,47⟩::Rq) (fun _ _=>True) rE wq))
    case atStart=>exact⟨2000,(.slice none 0 0),[],[],_,rfl,rfl,⟨⟨by omega,by omega,hall,Out.nil _ _,by simp only[List.length_nil];omega⟩⟩,HW⟩
    case round=>
     clear HW hall
     obtain⟨nq,vq,xs,Rq,bq,rfl,rfl,HI,HC⟩:=hrel
     have HW:=HC
     clear HC
     obtain⟨a3S,hbk,hal,hO,hln⟩:=HI.out
     clear HI
     obtain⟨f0,f1,f2,f3,us,is,hrd⟩:∃f0 f1 f2 f3 us is,vS bq=(f0,f1,f2,f3,us,is):=⟨_,_,_,_,_,_,rfl⟩
     have Ty:=wW hbk hal hrd
     go_upto_if 39 with(first|((with_reducible refine gq 19 rfl ?_);refine gl (some 34) Tryz.func19 #[(.string bq)] ?_;with_reducible refine(D6 _ hrd).mono ?_;rintro e Cs ⟨rfl,hb⟩;refine⟨_,rfl,?_⟩;replace HW:=ah.mk (HW.out.quiet hb);clear hb)|((with_reducible refine gd 7 rfl ?_);refine lbx (N:=7) (t:=42) HW (fC 0 false 0 (⟨#[]⟩:ByteArray)) ?_;clear HW;intro g7 zn HW)|((with_reducible refine gt 42 7 rfl ?_);refine iC HW 0 ?_;clear HW;intro Cw HW))
     rcases Ty with⟨nP,Hg,sZ,a3T,LJ⟩|⟨nP,rfl⟩
     ·subst nP
      have cs_:=bne_eq_false_iff_eq.mpr (rfl:(1:Int)=1)
      go_upto_region 11 with(first|((with_reducible refine gd 42 rfl ?_);refine qi HW 0 0 (fC _ _ _ _) Tryz.underlying42 ?_)|((with_reducible refine gd 43 rfl ?_);refine MC (N:=43) (t:=42) (m:=1) HW (fC f0 f1 f2 f3) ?_;clear HW;intro g43 GU HW)|((with_reducible refine gd 44 rfl ?_);refine aai (z:=.agg (fC 0 false 0 (⟨#[]⟩:ByteArray)).toArray) (bytes:=40) HW 3 0 hO (by simp only[List.length_map];omega) (by kernel_rfl) rfl (by decide) (by decide) Tryz.underlying29 ?_;intro aU4 aU5 Ef HN hO2;clear HW;have HW:=HN;clear HN))
      have p1_:=eq_true Hg
      have p2_:=eq_true sZ
      go_wp2_with (fail)
      go_roundg (nq-1)
      case measure=>omega
      case rel=>exact⟨nq-1,_,xs++[⟨f0,f1,f2,f3⟩],_,_,rfl,rfl,⟨⟨by omega,by omega,LJ,by rw[List.map_append];exact hO2,by rw[List.length_append,List.length_singleton];omega⟩⟩,⟨HW.out.drop.drop⟩⟩
     ·have cs_:=bne_iff_ne.mpr (show is≠1 by omega)
      go_wp2_with (fail)
      go_ret
      subst hbe
      exact⟨_,_,rfl,HW.out.drop.drop,hO⟩
   ·skip
    have Jr:(way==1)=false:=beq_eq_false_iff_ne.mpr c107
    have adW:(way != 1)=true:=bne_iff_ne.mpr c107
    replace hall:DT 2000 (y5++su)=all:=by first|exact D8 hall|exact D9 hall (by assumption)
    go_wp2_with (fail)
    (try rw[show(way==1)=false from beq_eq_false_iff_ne.mpr (by assumption)])
    go_loopg [5,6] (2000) (fun kq y5_ y6_ wq=>∃(nq:Nat)(vq:Value)(xs:List jS)(Rq:List nC)(bq:ByteArray),(y6_=vq)∧(y5_= .string bq)∧ah (nq≤kq∧bq.size≤nq∧xs++DT nq bq=all∧Out 42 4 vq (xs.map vJ) Rq∧xs.length+bq.size≤2000)∧ah (LW b NX rE w (⟨g2,wC x0 (.slice A1 l1.length c1) x2 (.slice A3 l3.length c3) x4 x5 (.slice A6 l6.length c6) x7 x8 (.slice A9 l9.length c9) x10 y0 (.slice B1 k1.length d1) y2 (.slice B3 k3.length d3) y4 y5 (.slice B6 k6.length d6) y7 y8 (.slice B9 k9.length d9) oH su sd,47⟩::Rq) (fun _ _=>True) rE wq))
    case atStart=>exact⟨2000,(.slice none 0 0),[],[],_,rfl,rfl,⟨⟨by omega,by omega,hall,Out.nil _ _,by simp only[List.length_nil];omega⟩⟩,HW⟩
    case round=>
     clear HW hall
     obtain⟨nq,vq,xs,Rq,bq,rfl,rfl,HI,HC⟩:=hrel
     have HW:=HC
     clear HC
     obtain⟨a3S,hbk,hal,hO,hln⟩:=HI.out
     clear HI
     obtain⟨f0,f1,f2,f3,us,is,hrd⟩:∃f0 f1 f2 f3 us is,vS bq=(f0,f1,f2,f3,us,is):=⟨_,_,_,_,_,_,rfl⟩
     have Ty:=wW hbk hal hrd
     go_upto_if 39 with(first|((with_reducible refine gq 19 rfl ?_);refine gl (some 34) Tryz.func19 #[(.string bq)] ?_;with_reducible refine(D6 _ hrd).mono ?_;rintro e zx ⟨rfl,hb⟩;refine⟨_,rfl,?_⟩;replace HW:=ah.mk (HW.out.quiet hb);clear hb)|((with_reducible refine gd 7 rfl ?_);refine lbx (N:=7) (t:=42) HW (fC 0 false 0 (⟨#[]⟩:ByteArray)) ?_;clear HW;intro g7 Eg HW)|((with_reducible refine gt 42 7 rfl ?_);refine iC HW 0 ?_;clear HW;intro I8 HW))
     rcases Ty with⟨nP,Hg,sZ,a3T,LJ⟩|⟨nP,rfl⟩
     ·subst nP
      have cs_:=bne_eq_false_iff_eq.mpr (rfl:(1:Int)=1)
      go_upto_region 11 with(first|((with_reducible refine gd 42 rfl ?_);refine qi HW 0 0 (fC _ _ _ _) Tryz.underlying42 ?_)|((with_reducible refine gd 43 rfl ?_);refine MC (N:=43) (t:=42) (m:=1) HW (fC f0 f1 f2 f3) ?_;clear HW;intro g43 yh HW)|((with_reducible refine gd 44 rfl ?_);refine aai (z:=.agg (fC 0 false 0 (⟨#[]⟩:ByteArray)).toArray) (bytes:=40) HW 3 0 hO (by simp only[List.length_map];omega) (by kernel_rfl) rfl (by decide) (by decide) Tryz.underlying29 ?_;intro v117 aLn zo HN hO2;clear HW;have HW:=HN;clear HN))
      have p1_:=eq_true Hg
      have p2_:=eq_true sZ
      go_wp2_with (fail)
      go_roundg (nq-1)
      case measure=>omega
      case rel=>exact⟨nq-1,_,xs++[⟨f0,f1,f2,f3⟩],_,_,rfl,rfl,⟨⟨by omega,by omega,LJ,by rw[List.map_append];exact hO2,by rw[List.length_append,List.length_singleton];omega⟩⟩,⟨HW.out.drop.drop⟩⟩
     ·have cs_:=bne_iff_ne.mpr (show is≠1 by omega)
      go_wp2_with (fail)
      go_ret
      subst hbe
      exact⟨_,_,rfl,HW.out.drop.drop,hO⟩
  |false=>
   have yo:=M4 hall rfl
   subst yo
   go_wp2_with (fail)
   go_ret
   subst hbe
   exact⟨_,_,rfl,HW.out.drop,(Out.nil _ _)⟩
 |false=>
  have yo:=M4 hall rfl
  subst yo
  go_wp2_with (first|((with_reducible refine gd 10 rfl ?_);refine vO HW 0 0 ?_)|((with_reducible refine gq 42 rfl ?_);refine gl (some 11) Tryz.func42 #[(.agg (wC _ _ _ _ _ _ _ _ _ _ _ _ _ _ _ _ _ _ _ _ _ _ _ _).toArray)] ?_;with_reducible refine(Js (hE.below (HW.out.underN hbe (Below.refl _ _) (.none _ _))) hs hX.out (hF.below (HW.out.underN hbe (Below.refl _ _) (.none _ _))) hs2 hY.out hwo).mono ?_;rintro e vP ⟨rfl,hb⟩;refine⟨_,rfl,?_⟩;replace HW:=ah.mk (HW.out.quiet hb);clear hb))
  go_ret
  subst hbe
  exact⟨_,_,rfl,HW.out.drop,(Out.nil _ _)⟩
theorem Da{w:World}{v1 v3 v6 v9 u1 u3 u6 u9:Value}{l1 l3 k1 k3:List bf}{l6 k6:List uF}{l9 k9:List jS}{x0 x10 y0 oH ex ey:Bool}{x2 x4 x7 x8 y2 y4 y7 y8:Int}{x5 y5 su sd:ByteArray}(hE:I6 w v1 l1 v3 l3 v6 l6 v9 l9)(hs:SmE l1 l3 x5 l6 l9)(hx:vG x0 l1 x2 l3 x4 x5 l6 x7 x8 l9=ex)(hF:I6 w u1 k1 u3 k3 u6 k6 u9 k9)(hs2:SmE k1 k3 y5 k6 k9)(hy:vG y0 k1 y2 k3 y4 y5 k6 y7 y8 k9=ey){way:Int}{wo iw:Bool}{all:List jS}(hwo:(ex&&(ey&&(!x0&&(y0&&(decide ((su.size:Int)≤800)&&decide ((sd.size:Int)≤800))))))=wo)(hiw:decide (0≤way∧way≤1)=iw)(hall:Hf wo iw way x5 y5 su sd=all)(h5:x5.size≤900∧y5.size≤900∧su.size≤1000∧sd.size≤1000):Calls Tryz.prog 17 #[.agg (wC x0 v1 x2 v3 x4 x5 v6 x7 x8 v9 x10 y0 u1 y2 u3 y4 y5 u6 y7 y8 u9 oH su sd).toArray,.int .i64 way] w fun e w'=>∃v R,e= .returned v∧LW w.heap.size NX rE w R (fun _ _=>True) rE w'∧Out 42 4 v (all.map vJ) R:=by
 obtain⟨b,hbe⟩:∃b,b=w.heap.size:=⟨_,rfl⟩
 have hw:TW b rE w:=.none _ _
 obtain⟨A1,c1,e_,_⟩:=hE.r1
 subst e_
 obtain⟨A3,c3,e_,_⟩:=hE.r3
 subst e_
 obtain⟨A6,c6,e_,_⟩:=hE.r6
 subst e_
 obtain⟨A9,c9,e_,_⟩:=hE.r9
 subst e_
 obtain⟨B1,d1,e_,_⟩:=hF.r1
 subst e_
 obtain⟨B3,d3,e_,_⟩:=hF.r3
 subst e_
 obtain⟨B6,d6,e_,_⟩:=hF.r6
 subst e_
 obtain⟨B9,d9,e_,_⟩:=hF.r9
 subst e_
 have hX:=ah.mk hx
 have hY:=ah.mk hy
 clear hx hy
 obtain⟨h5a_,h5b_,h5c_,h5d_⟩:=h5
 have HW:ah (LW b NX rE w [] (fun _ _=>True) rE w):=⟨LW.start hw trivial (Mon.top _)⟩
 clear hw
 go_enter Tryz.func17,Tryz.ntmps17
 go_upto_region 1 with(first|((with_reducible refine gd 2 rfl ?_);refine lbx (N:=2) (t:=47) HW (wC x0 (.slice A1 l1.length c1) x2 (.slice A3 l3.length c3) x4 x5 (.slice A6 l6.length c6) x7 x8 (.slice A9 l9.length c9) x10 y0 (.slice B1 k1.length d1) y2 (.slice B3 k3.length d3) y4 y5 (.slice B6 k6.length d6) y7 y8 (.slice B9 k9.length d9) oH su sd) ?_;clear HW;intro g2 pJ HW))
 go_upto_region 2 with(first|((with_reducible refine gd 10 rfl ?_);refine MC (N:=10) (t:=42) (m:=0) HW [] ?_;intro g10 wR HN;clear HW;have HW:=ah.mk HN.out.bk;clear HN;(try simp only[List.cons_append,List.nil_append]at HW)))
 cases wo with
 |true=>
  go_upto_if 18 with(first|((with_reducible refine gd 11 rfl ?_);refine vO HW 0 0 ?_)|((with_reducible refine gq 18 rfl ?_);refine gl (some 12) Tryz.func18 #[(.agg (wC _ _ _ _ _ _ _ _ _ _ _ _ _ _ _ _ _ _ _ _ _ _ _ _).toArray)] ?_;with_reducible refine(uE (hE.below (HW.out.underN hbe (Below.refl _ _) (.none _ _))) hs hX.out (hF.below (HW.out.underN hbe (Below.refl _ _) (.none _ _))) hs2 hY.out hwo).mono ?_;rintro e zi ⟨rfl,hb⟩;refine⟨_,rfl,?_⟩;replace HW:=ah.mk (HW.out.quiet hb);clear hb)|(go_at_call 44;with_reducible refine(ajN _ _ _ hiw).mono ?_;rintro e I7 ⟨rfl,hb⟩;replace HW:=ah.mk (HW.out.quiet hb);clear hb))
  cases iw with
  |true=>
   go_upto_region 4 with(fail)
   have ark:(y5++su).size=y5.size+su.size:=aK _ _
   have abr:(x5++sd).size=x5.size+sd.size:=aK _ _
   have I9:(9223372036854775807<y5.size+su.size)=False:=eq_false (by omega)
   have ae2:(9223372036854775807<x5.size+sd.size)=False:=eq_false (by omega)
   go_upto_if 27 with(first|((with_reducible refine gd 22 rfl ?_);refine lls HW 0 16 _ Tryz.underlying9 ?_)|((with_reducible refine gd 24 rfl ?_);refine lls HW 0 22 _ Tryz.underlying9 ?_))
   by_cases wS:way=1
   ·skip
    subst wS
    replace hall:DT 2000 (x5++sd)=all:=by first|exact D8 hall|exact D9 hall (by assumption)
    go_wp2_with (first|((with_reducible refine gd 30 rfl ?_);refine lls HW 0 5 _ Tryz.underlying9 ?_)|((with_reducible refine gd 32 rfl ?_);refine lls HW 0 23 _ Tryz.underlying9 ?_))
    (try rw[show(way==1)=false from beq_eq_false_iff_ne.mpr (by assumption)])
    go_loopg [5,6] (2000) (fun kq y5_ y6_ wq=>∃(nq:Nat)(vq:Value)(xs:List jS)(Rq:List nC)(bq:ByteArray),(y5_=vq)∧(y6_= .string bq)∧ah (nq≤kq∧bq.size≤nq∧xs++DT nq bq=all∧Out 42 4 vq (xs.map vJ) Rq∧xs.length+bq.size≤2000)∧ah (LW b NX rE w (⟨g2,wC x0 (.slice A1 l1.length c1) x2 (.slice A3 l3.length c3) x4 x5 (.slice A6 l6.length c6) x7 x8 (.slice A9 l9.length c9) x10 y0 (.slice B1 k1.length d1) y2 (.slice B3 k3.length d3) y4 y5 (.slice B6 k6.length d6) y7 y8 (.slice B9 k9.length d9) oH su sd,47⟩::Rq) (fun _ _=>True) rE wq))
    case atStart=>exact⟨2000,(.slice (some ⟨g10,0,none⟩) 0 0),[],[⟨g10,[],42⟩],_,rfl,rfl,⟨⟨by omega,by omega,hall,Out.lit g10 [] [] (fun _ h=>by cases h) rfl rfl (by decide),by simp only[List.length_nil];omega⟩⟩,HW⟩
    case round=>
     clear HW hall
     obtain⟨nq,vq,xs,Rq,bq,rfl,rfl,HI,HC⟩:=hrel
     have HW:=HC
     clear HC
     obtain⟨a3S,hbk,hal,hO,hln⟩:=HI.out
     clear HI
     obtain⟨f0,f1,f2,f3,us,is,hrd⟩:∃f0 f1 f2 f3 us is,vS bq=(f0,f1,f2,f3,us,is):=⟨_,_,_,_,_,_,rfl⟩
     have Ty:=wW hbk hal hrd
     go_upto_if 41 with(first|((with_reducible refine gq 45 rfl ?_);refine gl (some 36) Tryz.func45 #[(.string bq)] ?_;with_reducible refine(a3Q _ hrd).mono ?_;rintro e zn ⟨rfl,hb⟩;refine⟨_,rfl,?_⟩;replace HW:=ah.mk (HW.out.quiet hb);clear hb)|((with_reducible refine gd 7 rfl ?_);refine lbx (N:=7) (t:=42) HW (fC 0 false 0 (⟨#[]⟩:ByteArray)) ?_;clear HW;intro g7 Cw HW)|((with_reducible refine gt 42 7 rfl ?_);refine iC HW 0 ?_;clear HW;intro GU HW))
     rcases Ty with⟨nP,Hg,sZ,a3T,LJ⟩|⟨nP,rfl⟩
     ·subst nP
      have cs_:=decide_eq_false (show ¬((1:Int)≤0) by decide)
      go_upto_region 11 with(first|((with_reducible refine gd 44 rfl ?_);refine qi HW 0 0 (fC _ _ _ _) Tryz.underlying42 ?_)|((with_reducible refine gd 45 rfl ?_);refine MC (N:=45) (t:=42) (m:=1) HW (fC f0 f1 f2 f3) ?_;clear HW;intro g45 Ef HW)|((with_reducible refine gd 46 rfl ?_);refine aai (z:=.agg (fC 0 false 0 (⟨#[]⟩:ByteArray)).toArray) (bytes:=40) HW 3 0 hO (by simp only[List.length_map];omega) (by kernel_rfl) rfl (by decide) (by decide) Tryz.underlying29 ?_;intro aU7 aU8 zx HN hO2;clear HW;have HW:=HN;clear HN))
      have p1_:=eq_true Hg
      have p2_:=eq_true sZ
      go_wp2_with (fail)
      go_roundg (nq-1)
      case measure=>omega
      case rel=>exact⟨nq-1,_,xs++[⟨f0,f1,f2,f3⟩],_,_,rfl,rfl,⟨⟨by omega,by omega,LJ,by rw[List.map_append];exact hO2,by rw[List.length_append,List.length_singleton];omega⟩⟩,⟨HW.out.drop.drop⟩⟩
     ·have cs_:=decide_eq_true nP
      go_wp2_with (fail)
      go_ret
      subst hbe
      exact⟨_,_,rfl,HW.out.drop.drop,hO⟩
   ·skip
    have Jm:(way==1)=false:=beq_eq_false_iff_ne.mpr wS
    have adS:(way != 1)=true:=bne_iff_ne.mpr wS
    replace hall:DT 2000 (y5++su)=all:=by first|exact D8 hall|exact D9 hall (by assumption)
    go_wp2_with (fail)
    (try rw[show(way==1)=false from beq_eq_false_iff_ne.mpr (by assumption)])
    go_loopg [5,6] (2000) (fun kq y5_ y6_ wq=>∃(nq:Nat)(vq:Value)(xs:List jS)(Rq:List nC)(bq:ByteArray),(y5_=vq)∧(y6_= .string bq)∧ah (nq≤kq∧bq.size≤nq∧xs++DT nq bq=all∧Out 42 4 vq (xs.map vJ) Rq∧xs.length+bq.size≤2000)∧ah (LW b NX rE w (⟨g2,wC x0 (.slice A1 l1.length c1) x2 (.slice A3 l3.length c3) x4 x5 (.slice A6 l6.length c6) x7 x8 (.slice A9 l9.length c9) x10 y0 (.slice B1 k1.length d1) y2 (.slice B3 k3.length d3) y4 y5 (.slice B6 k6.length d6) y7 y8 (.slice B9 k9.length d9) oH su sd,47⟩::Rq) (fun _ _=>True) rE wq))
    case atStart=>exact⟨2000,(.slice (some ⟨g10,0,none⟩) 0 0),[],[⟨g10,[],42⟩],_,rfl,rfl,⟨⟨by omega,by omega,hall,Out.lit g10 [] [] (fun _ h=>by cases h) rfl rfl (by decide),by simp only[List.length_nil];omega⟩⟩,HW⟩
    case round=>
     clear HW hall
     obtain⟨nq,vq,xs,Rq,bq,rfl,rfl,HI,HC⟩:=hrel
     have HW:=HC
     clear HC
     obtain⟨a3S,hbk,hal,hO,hln⟩:=HI.out
     clear HI
     obtain⟨f0,f1,f2,f3,us,is,hrd⟩:∃f0 f1 f2 f3 us is,vS bq=(f0,f1,f2,f3,us,is):=⟨_,_,_,_,_,_,rfl⟩
     have Ty:=wW hbk hal hrd
     go_upto_if 41 with(first|((with_reducible refine gq 45 rfl ?_);refine gl (some 36) Tryz.func45 #[(.string bq)] ?_;with_reducible refine(a3Q _ hrd).mono ?_;rintro e Eg ⟨rfl,hb⟩;refine⟨_,rfl,?_⟩;replace HW:=ah.mk (HW.out.quiet hb);clear hb)|((with_reducible refine gd 7 rfl ?_);refine lbx (N:=7) (t:=42) HW (fC 0 false 0 (⟨#[]⟩:ByteArray)) ?_;clear HW;intro g7 I8 HW)|((with_reducible refine gt 42 7 rfl ?_);refine iC HW 0 ?_;clear HW;intro yh HW))
     rcases Ty with⟨nP,Hg,sZ,a3T,LJ⟩|⟨nP,rfl⟩
     ·subst nP
      have cs_:=decide_eq_false (show ¬((1:Int)≤0) by decide)
      go_upto_region 11 with(first|((with_reducible refine gd 44 rfl ?_);refine qi HW 0 0 (fC _ _ _ _) Tryz.underlying42 ?_)|((with_reducible refine gd 45 rfl ?_);refine MC (N:=45) (t:=42) (m:=1) HW (fC f0 f1 f2 f3) ?_;clear HW;intro g45 zo HW)|((with_reducible refine gd 46 rfl ?_);refine aai (z:=.agg (fC 0 false 0 (⟨#[]⟩:ByteArray)).toArray) (bytes:=40) HW 3 0 hO (by simp only[List.length_map];omega) (by kernel_rfl) rfl (by decide) (by decide) Tryz.underlying29 ?_;intro aU9 aUa vP HN hO2;clear HW;have HW:=HN;clear HN))
      have p1_:=eq_true Hg
      have p2_:=eq_true sZ
      go_wp2_with (fail)
      go_roundg (nq-1)
      case measure=>omega
      case rel=>exact⟨nq-1,_,xs++[⟨f0,f1,f2,f3⟩],_,_,rfl,rfl,⟨⟨by omega,by omega,LJ,by rw[List.map_append];exact hO2,by rw[List.length_append,List.length_singleton];omega⟩⟩,⟨HW.out.drop.drop⟩⟩
     ·have cs_:=decide_eq_true nP
      go_wp2_with (fail)
      go_ret
      subst hbe
      exact⟨_,_,rfl,HW.out.drop.drop,hO⟩
  |false=>
   have yo:=M4 hall rfl
   subst yo
   go_wp2_with (fail)
   go_ret
   subst hbe
   exact⟨_,_,rfl,HW.out.drop,(Out.lit g10 [] [] (fun _ h=>by cases h) rfl rfl (by decide))⟩
 |false=>
  have yo:=M4 hall rfl
  subst yo
  go_wp2_with (first|((with_reducible refine gd 11 rfl ?_);refine vO HW 0 0 ?_)|((with_reducible refine gq 18 rfl ?_);refine gl (some 12) Tryz.func18 #[(.agg (wC _ _ _ _ _ _ _ _ _ _ _ _ _ _ _ _ _ _ _ _ _ _ _ _).toArray)] ?_;with_reducible refine(uE (hE.below (HW.out.underN hbe (Below.refl _ _) (.none _ _))) hs hX.out (hF.below (HW.out.underN hbe (Below.refl _ _) (.none _ _))) hs2 hY.out hwo).mono ?_;rintro e uZ ⟨rfl,hb⟩;refine⟨_,rfl,?_⟩;replace HW:=ah.mk (HW.out.quiet hb);clear hb))
  go_ret
  subst hbe
  exact⟨_,_,rfl,HW.out.drop,(Out.lit g10 [] [] (fun _ h=>by cases h) rfl rfl (by decide))⟩
end Go.Proofs.YtokblgdgpnakpaaGreat.PFnEndLess
