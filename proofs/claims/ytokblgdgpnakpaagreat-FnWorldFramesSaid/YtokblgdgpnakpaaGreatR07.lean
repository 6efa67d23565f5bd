/- FnWorldFrames holds: part 7 of a proof that the given program meets it (printed texts and walks of our own, made short by a program). No condition. -/
import Derived.Test.YtokblgdgpnakpaaGreatR06
set_option linter.unusedVariables false
set_option linter.unusedSimpArgs false
set_option maxHeartbeats 8000000
set_option maxRecDepth 100000
namespace Go.Proofs.YtokblgdgpnakpaaGreat.PFnEndLess
open Go.RowKit Go.Proofs.YtokblgdgpnakpaaGreatW.PrintWords Go.Proofs.YtokblgdgpnakpaaGreatW.PrintLast Go.Proofs.YtokblgdgpnakpaaGreatW.PrintMore Go.Proofs.YtokblgdgpnakpaaGreat.Lm
open Go.Proofs.YtokblgdgpnakpaaGreat.Pure
attribute [local go_sem] bA bn bV bW aW aV bE bF
def iT.T3:Bool×List (List Nat×List Nat):=(true,[([],[]),([0],[0]),([1],[1]),([2],[2]),([3,2],[2,3]),([2,4],[2,4]),([5,2],[5]),([6],[6]),([7,6],[6,7]),([8,6],[6,8]),([9,6],[6,9]),([10,6,6],[6,10]),([11],[11]),([12,11],[11,12]),([11],[11]),([14,11],[11,14]),([15,11],[11,15]),([16,11],[11,16]),([13,17,11],[11,13,17]),([18,11],[11,18]),([19,11],[11,19]),([11],[11]),([21,11],[11,21]),([20,22,11],[11,20,22]),([11,23,6],[6,11,23]),([6,24],[6,24])])
def iT.B3:List Nat:=[0,1,3,7,15,31,63,127,255,511,1023,2047,4095,8191,4095,20479,53247,118783,262143,524287,1048575,4095,2101247,8388607,16777215,33554431]
theorem iT.tab3:jG .any (opsOf Tryz.f99 3)=iT.T3:=by kernel_rfl
theorem iT.bits3:fQ iT.T3.2 iT.B3=true:=by kernel_rfl
def iT.T5:Bool×List (List Nat×List Nat):=(true,[([],[]),([0],[0]),([],[]),([2],[2]),([3],[3]),([4],[4]),([1,5,4],[1,5]),([0,1,2,3,4,5,6],[]),([7,6,6,0,1,2,3,4,5,6],[6,7])])
def iT.B5:List Nat:=[0,1,0,4,12,28,63,127,255]
theorem iT.tab5:jG .any (opsOf Tryz.f99 5)=iT.T5:=by kernel_rfl
theorem iT.bits5:fQ iT.T5.2 iT.B5=true:=by kernel_rfl
theorem SQ{b N C:Nat}{w:World}{M:Nat→Nat→Prop}{x0:Bool}{v1:Value}{x2:Int}{v3:Value}{x4:Int}{x5:ByteArray}{v6:Value}{x7 x8:Int}{v9:Value}{x10:Bool}{f0:Int}{f1:Bool}{f2:Int}{f3:ByteArray}(hw:TW b M w)(hb0:b≤w.heap.size)(E:ET b M w N C v1 x2 v3 x4 x5 v6 v9)(hN:N≤3000000)(hf:f3.size≤700):Calls Tryz.prog 99 #[.agg (eC x0 v1 x2 v3 x4 x5 v6 x7 x8 v9 x10).toArray,.agg (fC f0 f1 f2 f3).toArray] w (EPost b M w (N+1) C):=by
 obtain⟨A1,n1,c1,A3,n3,c3,A6,n6,c6,A9,n9,c9,rfl,rfl,rfl,rfl,QC,QD⟩:=E.form4
 have HW:ah (LW b NX M w [] (xW b N C (.slice A1 n1 c1) x2 (.slice A3 n3 c3) x4 x5 (.slice A6 n6 c6) (.slice A9 n9 c9)) M w):=⟨LW.start hw E (Mon.et _ _ _ _ _ _ _ _ _)⟩
 clear hw E
 go_enter Tryz.func99,Tryz.ntmps99
 go_upto_region 3 with(first|((with_reducible refine gd 2 rfl ?_);refine lbx (N:=2) (t:=31) HW (eC x0 (.slice A1 n1 c1) x2 (.slice A3 n3 c3) x4 x5 (.slice A6 n6 c6) x7 x8 (.slice A9 n9 c9) x10) ?_;clear HW;intro g2 pJ HW)|((with_reducible refine gd 3 rfl ?_);refine lbx (N:=3) (t:=42) HW (fC f0 f1 f2 f3) ?_;clear HW;intro g3 wR HW)|((with_reducible refine gd 4 rfl ?_);refine lbx (N:=4) (t:=31) HW zE ?_;clear HW;intro g4 Cv HW)|((with_reducible refine gd 12 rfl ?_);refine qi HW 2 3 (tC _ _) Tryz.underlying25 ?_)|((with_reducible refine gd 14 rfl ?_);refine lls HW 1 3 _ Tryz.underlying9 ?_)|((with_reducible refine gq 106 rfl ?_);refine gl (some 15) Tryz.func106 #[(.agg (tC _ _).toArray),(.string f3)] ?_;with_reducible refine(Sv _ _ _ HW.out.ts.tw (HW.out.hb hb0) HW.out.g.t3 (by omega)).mono ?_;rintro e zi ⟨GV,GX,GY,Qi,Qj,yE,Qk,WL,rfl,hv_,gT,hb⟩;refine⟨_,rfl,?_⟩;replace HW:=ah.mk (LW.fact (H:=CTF b WL (.slice GV GX GY) Qi) (LW.fact (H:=HVF b (.slice Qj yE Qk)) (HW.out.quiet hb) hv_ (Mon.hv _)) gT (Mon.ctv _ _ _));clear hv_ gT hb)|((with_reducible refine gd 5 rfl ?_);refine lbx (N:=5) (t:=25) HW (tC (.slice none 0 0) 0) ?_;clear HW;intro g5 I7 HW)|((with_reducible refine gt 25 5 rfl ?_);refine iC HW 0 ?_;clear HW;intro zl HW)|((with_reducible refine gd 19 rfl ?_);refine lE HW 3 0 ?_)|((with_reducible refine gd 21 rfl ?_);refine lls HW 2 2 _ Tryz.underlying3 ?_)|((with_reducible refine gq 49 rfl ?_);refine gl (some 22) Tryz.func49 #[(.agg (eC _ _ _ _ _ _ _ _ _ _ _).toArray),(.int .i64 f2)] ?_;with_reducible refine(Je f2 HW.out.ts.tw (N:=N) (C:=C) (HW.out.g.1.1.up (by omega)) (by omega)).mono ?_;rintro e zn ⟨aGa,rfl,aGb,aGc,hb⟩;refine⟨_,rfl,?_⟩;replace HW:=ah.mk (HW.out.quiet hb);clear hb))
 go_cut [48] (fun y48 wq=>∃(Mq:Nat→Nat→Prop)(cq:Bool),(y48= .bool cq)∧ah (LW b NX M w [⟨g5,tC (.slice GV GX GY) Qi,25⟩,⟨g4,eC false (.slice none 0 0) 0 (.slice none 0 0) 0 (⟨#[]⟩:ByteArray) (.slice none 0 0) 0 0 (.slice none 0 0) false,31⟩,⟨g3,fC f0 f1 f2 f3,42⟩,⟨g2,eC x0 (.slice A1 n1 c1) x2 (.slice A3 n3 c3) x4 x5 (.slice A6 n6 c6) x7 x8 (.slice A9 n9 c9) x10,31⟩] (fun M w=>(((xW b N C (.slice A1 n1 c1) x2 (.slice A3 n3 c3) x4 x5 (.slice A6 n6 c6) (.slice A9 n9 c9)) M w)∧(HVF b (.slice Qj yE Qk)) M w)∧(CTF b WL (.slice GV GX GY) Qi) M w) Mq wq))
 case first=>
  go_upto_region 3 with(fail)
  by_cases vQ:aGa<0
  ·skip
   have Bv:=decide_eq_true vQ
   cases x0 with
   |true=>
    by_cases Bw:(n6:Int)=0
    ·skip
     have WM:((n6:Int)==0)=true:=beq_iff_eq.mpr Bw
     have adM:((n6:Int) != 0)=false:=bne_eq_false_iff_eq.mpr Bw
     have aP8:=ah.mk Bw
     clear Bw
     refine mY HW (fun _=>True) [] 26 (trivial) (fun zx HN hHeld=>?_)
     replace HW:=HN
     clear HN
     refine bK iT.tab3 iT.bits3 (fun HT_ HW_=>?_)
     refine pw 0 ?_
     refine pw 1 ?_
     refine pw 2 ?_
     refine pw 3 ?_
     refine tk 4 (some 27) (bm 26 31) rfl rfl hHeld ?_ (hy:=kG _ 3 0 _ Tryz.underlying4)
     refine pw 5 ?_
     refine pw 6 ?_
     refine pw 7 ?_
     refine tk 8 (some 31) (bm 26 511) rfl rfl hHeld ?_ (hy:=kG _ 3 6 _ Tryz.underlying26)
     refine pw 9 ?_
     refine pw 10 ?_
     refine pw 11 ?_
     refine pn 12 ?_
     refine pn 13 ?_
     refine pn 14 ?_
     refine pn 15 ?_
     refine pn 16 ?_
     refine pn 17 ?_
     refine pn 18 ?_
     refine pn 19 ?_
     refine pn 20 ?_
     refine pn 21 ?_
     refine pn 22 ?_
     refine pn 23 ?_
     refine pw 24 ?_
     refine pw 25 ?_
     refine dn ?_
     clear HT_ HW_
     go_wp2_with (fail)
     go_meet
     exact⟨_,_,rfl,⟨LW.less HW.out ⟨⟨(HW.out.g.1.1.up (by omega)),HW.out.g.1.2⟩,HW.out.g.2⟩ (Mon.and (Mon.and (Mon.et _ _ _ _ _ _ _ _ _) (Mon.hv _)) (Mon.ctv _ _ _))⟩⟩
    ·skip
     have WM:((n6:Int)==0)=false:=beq_eq_false_iff_ne.mpr Bw
     have adM:((n6:Int) != 0)=true:=bne_iff_ne.mpr Bw
     have hw_:wrap64 ((n6:Int)-1)=(n6:Int)-1:=dL _ (by omega) (by omega)
     have adN:=(show 0≤wrap64 ((n6:Int)-1)∧wrap64 ((n6:Int)-1)<(n6:Int)from⟨by omega,by omega⟩)
     obtain⟨aGd,aqu,_,_⟩:=SL.has (HW.out.g.1.1.s6) (by omega)
     subst aqu
     obtain⟨s0_e1,s1_e1,u2_e1,s3_e1,s4_e1,s5_e1,s6_e1,u7_e1,s8_e1,s9_e1,s10_e1,s11_e1,hr_e1,hs_e1⟩:=HW.out.rd39 (HW.out.g.1.1.s6) (i:=wrap64 ((n6:Int)-1)) (by omega) (by omega)
     obtain⟨A2_e1,n2_e1,d2_e1,A7_e1,n7_e1,d7_e1,Ct,Cu⟩:=hs_e1.form
     subst Ct Cu
     replace HW:=ah.mk (LW.fact (H:=Jf b (.slice A2_e1 n2_e1 d2_e1) s3_e1 s6_e1 (.slice A7_e1 n7_e1 d7_e1) s8_e1) HW.out hs_e1 (Mon.st _ _ _ _ _))
     clear hs_e1
     have pi_e1:=eq_true adN.1
     have qi_e1:=eq_true adN.2
     clear hw_
     refine mY HW (fun W=>W.rangeAt aGd ((wrap64 ((n6:Int)-1)).toNat*12) (sC s0_e1 s1_e1 (.slice A2_e1 n2_e1 d2_e1) s3_e1 s4_e1 s5_e1 s6_e1 (.slice A7_e1 n7_e1 d7_e1) s8_e1 s9_e1 s10_e1 s11_e1)) [] 26 (hr_e1) (fun I8 HN hHeld=>?_)
     replace HW:=HN
     clear HN
     refine bK iT.tab3 iT.bits3 (fun HT_ HW_=>?_)
     refine pw 0 ?_
     refine pw 1 ?_
     refine pw 2 ?_
     refine pw 3 ?_
     refine tk 4 (some 27) (bm 26 31) rfl rfl hHeld ?_ (hy:=kG _ 3 0 _ Tryz.underlying4)
     refine pw 5 ?_
     refine pw 6 ?_
     refine pw 7 ?_
     refine tk 8 (some 31) (bm 26 511) rfl rfl hHeld ?_ (hy:=kG _ 3 6 _ Tryz.underlying26)
     refine pw 9 ?_
     refine pw 10 ?_
     refine pw 11 ?_
     refine pw 12 ?_
     refine tk 13 (some 36) (bm 26 16383) rfl rfl hHeld ?_ (hy:=kG _ 3 6 _ Tryz.underlying26)
     refine pw 14 ?_
     refine tk 15 (some 38) (bm 26 65535) rfl rfl hHeld ?_ (hy:=kG _ 3 6 _ Tryz.underlying26)
     refine pw 16 ?_
     refine pw 17 ?_
     refine pw 18 ?_
     refine pw 19 ?_
     refine tk 20 (some 43) (bm 26 2097151) rfl rfl hHeld ?_ (hy:=DK (.int .i64 s0_e1) (fun W h=>((fun W h=>h)) W h 0 _ rfl) Tryz.underlying3)
     refine pw 21 ?_
     refine tk 22 (some 45) (bm 26 8388607) rfl rfl hHeld ?_ (hy:=kG _ 2 2 _ Tryz.underlying3)
     refine pw 23 ?_
     refine pw 24 ?_
     refine pw 25 ?_
     refine dn ?_
     clear HT_ HW_
     go_wp2_with (fail)
     go_meet
     exact⟨_,_,rfl,⟨LW.less HW.out ⟨⟨(HW.out.g.1.1.1.up (by omega)),HW.out.g.1.1.2⟩,HW.out.g.1.2⟩ (Mon.and (Mon.and (Mon.et _ _ _ _ _ _ _ _ _) (Mon.hv _)) (Mon.ctv _ _ _))⟩⟩
   |false=>
    refine mY HW (fun _=>True) [] 26 (trivial) (fun yh HN hHeld=>?_)
    replace HW:=HN
    clear HN
    refine bK iT.tab3 iT.bits3 (fun HT_ HW_=>?_)
    refine pw 0 ?_
    refine pw 1 ?_
    refine pw 2 ?_
    refine pw 3 ?_
    refine tk 4 (some 27) (bm 26 31) rfl rfl hHeld ?_ (hy:=kG _ 3 0 _ Tryz.underlying4)
    refine pw 5 ?_
    refine pw 6 ?_
    refine pn 7 ?_
    refine pn 8 ?_
    refine pn 9 ?_
    refine pn 10 ?_
    refine pn 11 ?_
    refine pn 12 ?_
    refine pn 13 ?_
    refine pn 14 ?_
    refine pn 15 ?_
    refine pn 16 ?_
    refine pn 17 ?_
    refine pn 18 ?_
    refine pn 19 ?_
    refine pn 20 ?_
    refine pn 21 ?_
    refine pn 22 ?_
    refine pn 23 ?_
    refine pn 24 ?_
    refine pw 25 ?_
    refine dn ?_
    clear HT_ HW_
    go_wp2_with (fail)
    go_meet
    exact⟨_,_,rfl,⟨LW.less HW.out ⟨⟨(HW.out.g.1.1.up (by omega)),HW.out.g.1.2⟩,HW.out.g.2⟩ (Mon.and (Mon.and (Mon.et _ _ _ _ _ _ _ _ _) (Mon.hv _)) (Mon.ctv _ _ _))⟩⟩
  ·skip
   have Bv:=decide_eq_false vQ
   refine mY HW (fun _=>True) [] 26 (trivial) (fun zo HN hHeld=>?_)
   replace HW:=HN
   clear HN
   refine bK iT.tab3 iT.bits3 (fun HT_ HW_=>?_)
   refine pw 0 ?_
   refine pw 1 ?_
   refine pw 2 ?_
   refine pn 3 ?_
   refine pn 4 ?_
   refine pw 5 ?_
   refine pw 6 ?_
   refine pn 7 ?_
   refine pn 8 ?_
   refine pn 9 ?_
   refine pn 10 ?_
   refine pn 11 ?_
   refine pn 12 ?_
   refine pn 13 ?_
   refine pn 14 ?_
   refine pn 15 ?_
   refine pn 16 ?_
   refine pn 17 ?_
   refine pn 18 ?_
   refine pn 19 ?_
   refine pn 20 ?_
   refine pn 21 ?_
   refine pn 22 ?_
   refine pn 23 ?_
   refine pn 24 ?_
   refine pw 25 ?_
   refine dn ?_
   clear HT_ HW_
   go_wp2_with (fail)
   go_meet
   exact⟨_,_,rfl,⟨LW.less HW.out ⟨⟨(HW.out.g.1.1.up (by omega)),HW.out.g.1.2⟩,HW.out.g.2⟩ (Mon.and (Mon.and (Mon.et _ _ _ _ _ _ _ _ _) (Mon.hv _)) (Mon.ctv _ _ _))⟩⟩
 case rest=>
  obtain⟨Mq,cq,rfl,HC⟩:=hcut
  try clear HW
  have HW:=HC
  clear HC
  go_upto_if 48 with(fail)
  go_cut [8] (fun y8 wq=>∃(Mq:Nat→Nat→Prop)(A6q:Option Addr)(n6q:Nat)(c6q:Nat)(kq:Int),(y8= .int .i64 kq)∧(-1≤kq∧kq<(n6q:Int))∧ah (LW b NX M w [⟨g5,tC (.slice GV GX GY) Qi,25⟩,⟨g4,eC false (.slice none 0 0) 0 (.slice none 0 0) 0 (⟨#[]⟩:ByteArray) (.slice none 0 0) 0 0 (.slice none 0 0) false,31⟩,⟨g3,fC f0 f1 f2 f3,42⟩,⟨g2,eC x0 (.slice A1 n1 c1) x2 (.slice A3 n3 c3) x4 x5 (.slice A6q n6q c6q) x7 x8 (.slice A9 n9 c9) x10,31⟩] (fun M w=>((((xW b N C (.slice A1 n1 c1) x2 (.slice A3 n3 c3) x4 x5 (.slice A6 n6 c6) (.slice A9 n9 c9)) M w)∧(HVF b (.slice Qj yE Qk)) M w)∧(CTF b WL (.slice GV GX GY) Qi) M w)∧(Yh 39 (N+1) (.slice A6q n6q c6q)) M w) Mq wq))
  case first=>
   cases cq with
   |true=>
    go_upto_region 5 with(first|((with_reducible refine gd 50 rfl ?_);refine lls HW 3 6 _ Tryz.underlying26 ?_))
    refine mY HW (fun _=>True) [6,8] 9 (trivial) (fun uZ HN hHeld=>?_)
    replace HW:=HN
    clear HN
    refine bK iT.tab5 iT.bits5 (fun HT_ HW_=>?_)
    refine pw 0 ?_
    refine tk 1 (some 53) (bm 9 3) rfl rfl hHeld ?_ (hy:=kG _ 3 6 _ Tryz.underlying26)
    refine pw 2 ?_
    refine tk 3 (some 55) (bm 9 15) rfl rfl hHeld ?_ (hy:=kG _ 2 2 _ Tryz.underlying3)
    refine on 4 (bm 9 31) fun K hK=>?_
    refine gs Tryz.func88 #[(.int .i64 f2)] ?_
    with_reducible refine(a2o f2 (HW.out.hb hb0)).mono ?_
    rintro e zu ⟨SS,SX,SY,Ta,Tc,Td,rfl,hs_,hb⟩
    refine⟨_,rfl,?_⟩
    replace HW:=ah.mk (LW.fact (H:=Jf b (.slice SS SX SY) (⟨#[]⟩:ByteArray) 0 (.slice Ta Tc Td) (⟨#[]⟩:ByteArray)) (HW.out.quiet hb) hs_ (Mon.st _ _ _ _ _))
    clear hs_ hb
    refine hK.out _ _ ⟨HW.out.bxs,trivial⟩ (fun hHeld=>?_)
    clear hK K
    refine nm ?_
    refine on 5 (bm 9 63) fun K hK=>?_
    refine jX (by rfl) ?_
    refine a2l (t:=39) (m:=1) HW (sC f2 1 (.slice SS SX SY) (⟨#[]⟩:ByteArray) false false 0 (.slice Ta Tc Td) (⟨#[]⟩:ByteArray) false 8 8) ?_
    clear HW
    intro g57 zw HW
    refine hK.out _ _ ⟨HW.out.drop.bxs,trivial⟩ (fun hHeld=>?_)
    clear hK K
    refine nm ?_
    refine la 6 (bm 9 127) fun K hK=>?_
    refine jX (by rfl) ?_
    refine a2m (T:=39) (m:=1) (bytes:=136) (z:=.agg (sC 0 0 (.slice none 0 0) (⟨#[]⟩:ByteArray) false false 0 (.slice none 0 0) (⟨#[]⟩:ByteArray) false 0 0).toArray) (news:=sC f2 1 (.slice SS SX SY) (⟨#[]⟩:ByteArray) false false 0 (.slice Ta Tc Td) (⟨#[]⟩:ByteArray) false 8 8) HW (HW.out.g.1.1.1.s6) (HW.out.hb hb0) rfl (z8 HW.out (i:=0) rfl) (gF rfl) (by decide) (fun i hi=>by obtain rfl:i=0:=(by omega);exact .inl ⟨rfl,_,_,_,_,_,_,_,_,_,_,_,_,rfl,HW.out.g.2⟩) (by kernel_rfl) (by rfl) (by decide) (by omega) (by simp only[maxLen];omega) Tryz.underlying26 ?_
    intro a2A Qc aEW Cr HN gT qf
    replace HW:=ah.mk (LW.fact (H:=Yh 39 (N+1) (.slice a2A (n6+1) Qc)) HN.out qf (Mon.sl _ _ _))
    clear HN qf gT
    refine hK.out _ _ ?_
    clear hK K
    refine nm ?_
    refine pw 7 ?_
    refine la 8 (bm 9 511) fun K hK=>?_
    refine jX (by rfl) ?_
    refine rA HW 4 6 (.slice a2A (n6+1) Qc) (eC _ _ _ _ _ _ _ _ _ _ _) ([_]) ?_ (gF rfl)
    clear HW
    intro Eh HW
    refine hK.out _ _ ?_
    clear hK K
    refine dn ?_
    clear HT_ HW_
    go_wp2_with (fail)
    go_meet
    exact⟨_,_,_,_,_,rfl,(show -1≤_∧_<_ from⟨by omega,by omega⟩),⟨LW.less HW.out.drop ⟨⟨⟨(HW.out.g.1.1.1.1.up (by omega)),HW.out.g.1.1.1.2⟩,HW.out.g.1.1.2⟩,(HW.out.g.2.mono (N':=(N+1)) (by omega))⟩ (Mon.and (Mon.and (Mon.and (Mon.et _ _ _ _ _ _ _ _ _) (Mon.hv _)) (Mon.ctv _ _ _)) (Mon.sl _ _ _))⟩⟩
   |false=>
    go_wp2_with (fail)
    go_meet
    exact⟨_,_,_,_,_,rfl,(show -1≤_∧_<_ from⟨by omega,by omega⟩),⟨LW.less HW.out ⟨⟨⟨(HW.out.g.1.1.up (by omega)),HW.out.g.1.2⟩,HW.out.g.2⟩,(HW.out.g.1.1.s6.mono (N':=(N+1)) (by omega))⟩ (Mon.and (Mon.and (Mon.and (Mon.et _ _ _ _ _ _ _ _ _) (Mon.hv _)) (Mon.ctv _ _ _)) (Mon.sl _ _ _))⟩⟩
  case rest=>
   obtain⟨Mq,A6q,n6q,c6q,kq,rfl,aP9,HC⟩:=hcut
   try clear HW
   have HW:=HC
   clear HC
   go_upto_region 6 with(fail)
   cases WL with
   |true=>
    by_cases c127:kq<0
    ·skip
     have a2F:=decide_eq_true c127
     go_wp2_with (first|((with_reducible refine gt 4 89 rfl ?_);refine ow HW 3 10 (.bool true) (eC _ _ _ _ _ _ _ _ _ _ _) ([_]) ?_ (gF rfl);clear HW;intro ah7 HW)|((with_reducible refine gd 90 rfl ?_);refine lE HW 3 0 ?_)|((with_reducible refine gt 31 4 rfl ?_);refine iC HW 1 ?_;clear HW;intro SN HW))
     refine kP HW 1 Tryz.underlying31 ?_
     exact⟨_,_,rfl,HW.out.ts,⟨_,_,_,_,_,_,_,_,_,_,_,rfl,⟨HW.out.g.1.1.1.t1,HW.out.g.1.1.1.t3,HW.out.g.1.1.1.c5,(HW.out.g.2.mono (N':=(N+1)) (by omega)),(HW.out.g.1.1.1.s9.mono (N':=(N+1)) (by omega))⟩⟩⟩
    ·skip
     have a2F:=decide_eq_false c127
     have adO:=(show 0≤kq∧kq<(n6q:Int)from⟨by omega,by omega⟩)
     obtain⟨a2M,aqv,_,_⟩:=SL.has (HW.out.g.2) (by omega)
     subst aqv
     obtain⟨s0_f1,s1_f1,u2_f1,s3_f1,s4_f1,s5_f1,s6_f1,u7_f1,s8_f1,s9_f1,s10_f1,s11_f1,hr_f1,hs_f1⟩:=HW.out.rd39 (HW.out.g.2) (i:=kq) (by omega) (by omega)
     obtain⟨A2_f1,n2_f1,d2_f1,A7_f1,n7_f1,d7_f1,Ct,Cu⟩:=hs_f1.form
     subst Ct Cu
     replace HW:=ah.mk (LW.fact (H:=Jf b (.slice A2_f1 n2_f1 d2_f1) s3_f1 s6_f1 (.slice A7_f1 n7_f1 d7_f1) s8_f1) HW.out hs_f1 (Mon.st _ _ _ _ _))
     clear hs_f1
     have pi_f1:=eq_true adO.1
     have qi_f1:=eq_true adO.2
     cases s9_f1 with
     |true=>
      have aPa:=hr_f1 9 _ rfl
      have aPb:=hr_f1 7 _ rfl
      have aPc:=HW.out.cell (v:=(.slice (some ⟨a2M,0,none⟩) n6q c6q)) 3 6
      go_wp2_with (first|((with_reducible refine gt 4 89 rfl ?_);refine ow HW 3 10 (.bool true) (eC _ _ _ _ _ _ _ _ _ _ _) ([_]) ?_ (gF rfl);clear HW;intro aaN HW)|((with_reducible refine gd 90 rfl ?_);refine lE HW 3 0 ?_)|((with_reducible refine gt 31 4 rfl ?_);refine iC HW 1 ?_;clear HW;intro a2J HW))
      refine kP HW 1 Tryz.underlying31 ?_
      exact⟨_,_,rfl,HW.out.ts,⟨_,_,_,_,_,_,_,_,_,_,_,rfl,⟨HW.out.g.1.1.1.1.t1,HW.out.g.1.1.1.1.t3,HW.out.g.1.1.1.1.c5,(HW.out.g.1.2.mono (N':=(N+1)) (by omega)),(HW.out.g.1.1.1.1.s9.mono (N':=(N+1)) (by omega))⟩⟩⟩
     |false=>
      by_cases a2N:(n7_f1:Int)>0
      ·skip
       have a2O:=decide_eq_true a2N
       have aPd:=hr_f1 9 _ rfl
       have aPe:=hr_f1 7 _ rfl
       have aPf:=HW.out.cell (v:=(.slice (some ⟨a2M,0,none⟩) n6q c6q)) 3 6
       have aPg:=HW.out.cell (v:=(.slice (some ⟨a2M,0,none⟩) n6q c6q)) 3 6
       go_wp2_with (first|((with_reducible refine gt 4 89 rfl ?_);refine ow HW 3 10 (.bool true) (eC _ _ _ _ _ _ _ _ _ _ _) ([_]) ?_ (gF rfl);clear HW;intro a2L HW)|((with_reducible refine gd 90 rfl ?_);refine lE HW 3 0 ?_)|((with_reducible refine gt 31 4 rfl ?_);refine iC HW 1 ?_;clear HW;intro ahN HW))
       refine kP HW 1 Tryz.underlying31 ?_
       exact⟨_,_,rfl,HW.out.ts,⟨_,_,_,_,_,_,_,_,_,_,_,rfl,⟨HW.out.g.1.1.1.1.t1,HW.out.g.1.1.1.1.t3,HW.out.g.1.1.1.1.c5,(HW.out.g.1.2.mono (N':=(N+1)) (by omega)),(HW.out.g.1.1.1.1.s9.mono (N':=(N+1)) (by omega))⟩⟩⟩
      ·skip
       have a2O:=decide_eq_false a2N
       have aPh:=hr_f1 9 _ rfl
       have aPi:=hr_f1 7 _ rfl
       have aPj:=HW.out.cell (v:=(.slice (some ⟨a2M,0,none⟩) n6q c6q)) 3 6
       have aPk:=HW.out.cell (v:=(.slice (some ⟨a2M,0,none⟩) n6q c6q)) 3 6
       go_upto_if 88 with(fail)
       by_cases c148:(yE:Int)=0
       ·skip
        have aqw:((yE:Int)==0)=true:=beq_iff_eq.mpr c148
        have aqx:((yE:Int) != 0)=false:=bne_eq_false_iff_eq.mpr c148
        have aPl:=ah.mk c148
        clear c148
        go_wp2_with (first|((with_reducible refine gt 4 89 rfl ?_);refine ow HW 3 10 (.bool true) (eC _ _ _ _ _ _ _ _ _ _ _) ([_]) ?_ (gF rfl);clear HW;intro aaC HW)|((with_reducible refine gd 90 rfl ?_);refine lE HW 3 0 ?_)|((with_reducible refine gt 31 4 rfl ?_);refine iC HW 1 ?_;clear HW;intro a2P HW))
        refine kP HW 1 Tryz.underlying31 ?_
        exact⟨_,_,rfl,HW.out.ts,⟨_,_,_,_,_,_,_,_,_,_,_,rfl,⟨HW.out.g.1.1.1.1.t1,HW.out.g.1.1.1.1.t3,HW.out.g.1.1.1.1.c5,(HW.out.g.1.2.mono (N':=(N+1)) (by omega)),(HW.out.g.1.1.1.1.s9.mono (N':=(N+1)) (by omega))⟩⟩⟩
       ·skip
        have aqw:((yE:Int)==0)=false:=beq_eq_false_iff_ne.mpr c148
        have aqx:((yE:Int) != 0)=true:=bne_iff_ne.mpr c148
        go_upto_region 10 with(first|((with_reducible refine gd 91 rfl ?_);refine qi HW 0 0 (tC _ _) Tryz.underlying25 ?_)|((with_reducible refine gt 25 92 rfl ?_);refine ow HW 3 3 (.agg (tC _ _).toArray) (eC _ _ _ _ _ _ _ _ _ _ _) (tC _ _) ?_ (gF rfl);clear HW;intro Yj HW))
        have Jq:=(show 0≤kq∧kq<(n6q:Int)from⟨by omega,by omega⟩)
        obtain⟨s0_g,s1_g,u2_g,s3_g,s4_g,s5_g,s6_g,u7_g,s8_g,s9_g,s10_g,s11_g,hr_g,hs_g⟩:=HW.out.rd39 (HW.out.g.1.2) (i:=kq) (by omega) (by omega)
        obtain⟨A2_g,n2_g,d2_g,A7_g,n7_g,d7_g,Ct,Cu⟩:=hs_g.form
        subst Ct Cu
        replace HW:=ah.mk (LW.fact (H:=Jf b (.slice A2_g n2_g d2_g) s3_g s6_g (.slice A7_g n7_g d7_g) s8_g) HW.out hs_g (Mon.st _ _ _ _ _))
        clear hs_g
        have YA:=eq_true Jq.1
        have YB:=eq_true Jq.2
        go_upto_if 101 with(first|((with_reducible refine gd 94 rfl ?_);refine lls HW 3 6 _ Tryz.underlying26 ?_)|((with_reducible refine gd 97 rfl ?_);refine lrw (cs:=sC s0_g s1_g (.slice A2_g n2_g d2_g) s3_g s4_g s5_g s6_g (.slice A7_g n7_g d7_g) s8_g s9_g s10_g s11_g) hr_g Tryz.underlying39 ?_)|((with_reducible refine gd 9 rfl ?_);refine lbx (N:=9) (t:=39) HW zS ?_;clear HW;intro g9 aaD HW)|((with_reducible refine gt 39 9 rfl ?_);refine iC HW 0 ?_;clear HW;intro aaO HW)|((with_reducible refine gt 23 99 rfl ?_);refine ow HW 0 7 (.slice Qj yE Qk) (sC _ _ _ _ _ _ _ _ _ _ _ _) ([_]) ?_ (gF rfl);clear HW;intro aaE HW)|((with_reducible refine gd 101 rfl ?_);refine lls HW 3 1 _ Tryz.underlying4 ?_))
        cases f1 with
        |true=>
         go_wp2_with (first|((with_reducible refine gd 102 rfl ?_);refine lE HW 4 0 ?_)|((with_reducible refine gd 103 rfl ?_);refine lS HW 0 0 ?_)|((with_reducible refine gq 107 rfl ?_);refine gl (some 104) Tryz.func107 #[(.agg (eC _ _ _ _ _ _ _ _ _ _ _).toArray),(.agg (sC _ _ _ _ _ _ _ _ _ _ _ _).toArray)] ?_;with_reducible refine(GR HW.out.ts.tw (HW.out.hb hb0) (N:=(N+1)) (C:=C) ⟨HW.out.g.1.1.1.1.1.t1,(HW.out.g.1.1.1.2 rfl),HW.out.g.1.1.1.1.1.c5,(HW.out.g.1.1.2.mono (N':=(N+1)) (by omega)),(HW.out.g.1.1.1.1.1.s9.mono (N':=(N+1)) (by omega))⟩ (by omega) ⟨HW.out.g.2.h2,HW.out.g.1.1.1.1.2,HW.out.g.2.s0,HW.out.g.2.s1,HW.out.g.2.s3,HW.out.g.2.s8⟩).mono ?_;rintro e aGe h_;obtain⟨E_,M_157,rfl,gT,hE_⟩:=h_.out;refine⟨_,rfl,?_⟩;obtain⟨aGf,aGg,u2_,ahO,aGh,aGi,ahP,u7_,ahQ,aGj,aA7,aA8,rfl,hF_⟩:=hE_.out;clear hE_;obtain⟨ahR,ahS,ahT,ahU,ahV,ahW,Ct,Cu⟩:=hF_.form;subst Ct Cu;replace HW:=ah.mk ((HW.out.call gT).st hF_);clear gT hF_)|((with_reducible refine gt 39 9 rfl ?_);refine iC HW 0 ?_;clear HW;intro aqi HW)|((with_reducible refine gd 106 rfl ?_);refine lls HW 4 6 _ Tryz.underlying26 ?_)|((with_reducible refine gd 108 rfl ?_);refine lS HW 0 0 ?_)|((with_reducible refine gt 39 109 rfl ?_);have hS_:ST b _ (.slice ahR ahS ahT) ahO ahP (.slice ahU ahV ahW) ahQ:=HW.out.g.2;refine Yz HW (HW.out.g.1.1.1.2) Jq.1 Jq.2 hS_ ?_;clear HW;intro aTo HW;clear hS_)|((with_reducible refine gd 110 rfl ?_);refine lE HW 4 0 ?_)|((with_reducible refine gt 31 4 rfl ?_);refine iC HW 2 ?_;clear HW;intro aTp HW))
         refine kP HW 2 Tryz.underlying31 ?_
         exact⟨_,_,rfl,HW.out.ts,⟨_,_,_,_,_,_,_,_,_,_,_,rfl,⟨HW.out.g.1.1.1.1.1.1.t1,(HW.out.g.1.1.1.1.2 rfl),HW.out.g.1.1.1.1.1.1.c5,(HW.out.g.1.1.1.2.mono (N':=(N+1)) (by omega)),(HW.out.g.1.1.1.1.1.1.s9.mono (N':=(N+1)) (by omega))⟩⟩⟩
        |false=>
         go_wp2_with (first|((with_reducible refine gd 106 rfl ?_);refine lls HW 4 6 _ Tryz.underlying26 ?_)|((with_reducible refine gd 108 rfl ?_);refine lS HW 0 0 ?_)|((with_reducible refine gt 39 109 rfl ?_);have hS_:ST b _ (.slice A2_g n2_g d2_g) s3_g s6_g (.slice Qj yE Qk) s8_g:=⟨HW.out.g.2.h2,HW.out.g.1.1.1.1.2,HW.out.g.2.s0,HW.out.g.2.s1,HW.out.g.2.s3,HW.out.g.2.s8⟩;refine Yz HW (HW.out.g.1.1.2) Jq.1 Jq.2 hS_ ?_;clear HW;intro aFS HW;clear hS_)|((with_reducible refine gd 110 rfl ?_);refine lE HW 4 0 ?_)|((with_reducible refine gt 31 4 rfl ?_);refine iC HW 2 ?_;clear HW;intro aTq HW))
         refine kP HW 2 Tryz.underlying31 ?_
         exact⟨_,_,rfl,HW.out.ts,⟨_,_,_,_,_,_,_,_,_,_,_,rfl,⟨HW.out.g.1.1.1.1.1.t1,(HW.out.g.1.1.1.2 rfl),HW.out.g.1.1.1.1.1.c5,(HW.out.g.1.1.2.mono (N':=(N+1)) (by omega)),(HW.out.g.1.1.1.1.1.s9.mono (N':=(N+1)) (by omega))⟩⟩⟩
   |false=>
    go_wp2_with (first|((with_reducible refine gt 4 89 rfl ?_);refine ow HW 3 10 (.bool true) (eC _ _ _ _ _ _ _ _ _ _ _) ([_]) ?_ (gF rfl);clear HW;intro aFT HW)|((with_reducible refine gd 90 rfl ?_);refine lE HW 3 0 ?_)|((with_reducible refine gt 31 4 rfl ?_);refine iC HW 1 ?_;clear HW;intro aTr HW))
    refine kP HW 1 Tryz.underlying31 ?_
    exact⟨_,_,rfl,HW.out.ts,⟨_,_,_,_,_,_,_,_,_,_,_,rfl,⟨HW.out.g.1.1.1.t1,HW.out.g.1.1.1.t3,HW.out.g.1.1.1.c5,(HW.out.g.2.mono (N':=(N+1)) (by omega)),(HW.out.g.1.1.1.s9.mono (N':=(N+1)) (by omega))⟩⟩⟩
def iA.T3:Bool×List (List Nat×List Nat):=(true,[([],[]),([0],[0]),([1],[1]),([2],[2]),([3,2],[2,3]),([2],[2]),([4,5,2],[2,4,5]),([6,2],[2,6]),([7,2],[2,7]),([2,8],[2,8]),([9,2],[9]),([10],[10]),([11,10],[10,11]),([10],[10]),([12,13,10],[10,12,13]),([14,10],[10,14]),([15,10],[10,15]),([16,10],[10,16]),([17,10],[10,17]),([10,18],[10,18]),([19,10],[19]),([20],[20]),([20],[20]),([22,20],[20,22]),([23,20],[20,23]),([21,24,20],[20,21,24]),([20,25],[20,25]),([26,20],[26]),([27],[27]),([27],[27]),([29,27],[27,29]),([27],[27]),([30,31,27],[27,30,31]),([32,27],[27,32]),([33,27],[27,33]),([34,27],[27,34]),([28,35,27],[27,28,35]),([27,36],[27,36]),([37,27],[37]),([38],[38]),([39,38],[38,39]),([38],[38]),([40,41,38],[38,40,41]),([42,38],[38,42]),([43,38],[38,43]),([38],[38]),([45,38],[38,45]),([44,46,38],[38,44,46]),([47,38,38],[38,47]),([48,38],[38,48]),([38,49],[38,49])])
def iA.B3:List Nat:=[0,1,3,7,15,7,63,127,255,511,1023,2047,4095,2047,16383,32767,65535,131071,262143,524287,1048575,2097151,2097151,6291455,14680063,33554431,67108863,134217727,268435455,268435455,805306367,268435455,4026531839,8321499135,16911433727,34091302911,68719476735,137438953471,274877906943,549755813887,1099511627775,549755813887,4398046511103,8796093022207,17592186044415,549755813887,35734127902719,140737488355327,281474976710655,562949953421311,1125899906842623]
theorem iA.tab3:jG .any (opsOf Tryz.f100 3)=iA.T3:=by kernel_rfl
theorem iA.bits3:fQ iA.T3.2 iA.B3=true:=by kernel_rfl
def iA.T11:Bool×List (List Nat×List Nat):=(true,[([],[]),([0],[0]),([],[]),([2],[2]),([3],[3]),([],[]),([5],[5]),([],[]),([7,3],[7]),([6,8],[6,8]),([4,9],[4,9]),([1,10,8],[1,10]),([0,1,2,3,4,5,6,7,8,9,10,11],[]),([12,11,11,0,1,2,3,4,5,6,7,8,9,10,11],[11,12])])
def iA.B11:List Nat:=[0,1,0,4,12,0,32,0,140,492,1020,2047,4095,8191]
theorem iA.tab11:jG .any (opsOf Tryz.f100 11)=iA.T11:=by kernel_rfl
theorem iA.bits11:fQ iA.T11.2 iA.B11=true:=by kernel_rfl
theorem Te{b N C:Nat}{w:World}{M:Nat→Nat→Prop}{x0:Bool}{v1:Value}{x2:Int}{v3:Value}{x4:Int}{x5:ByteArray}{v6:Value}{x7 x8:Int}{v9:Value}{x10:Bool}{f0:Int}{f1:Bool}{f2:Int}{f3:ByteArray}(hw:TW b M w)(hb0:b≤w.heap.size)(E:ET b M w N C v1 x2 v3 x4 x5 v6 v9)(hN:N≤3000000)(hf:f3.size≤700):Calls Tryz.prog 100 #[.agg (eC x0 v1 x2 v3 x4 x5 v6 x7 x8 v9 x10).toArray,.agg (fC f0 f1 f2 f3).toArray] w (EPost b M w (N+2) C):=by
 obtain⟨A1,n1,c1,A3,n3,c3,A6,n6,c6,A9,n9,c9,rfl,rfl,rfl,rfl,QC,QD⟩:=E.form4
 have HW:ah (LW b NX M w [] (xW b N C (.slice A1 n1 c1) x2 (.slice A3 n3 c3) x4 x5 (.slice A6 n6 c6) (.slice A9 n9 c9)) M w):=⟨LW.start hw E (Mon.et _ _ _ _ _ _ _ _ _)⟩
 clear hw E
 go_enter Tryz.func100,Tryz.ntmps100
 go_upto_region 3 with(first|((with_reducible refine gd 2 rfl ?_);refine lbx (N:=2) (t:=31) HW (eC x0 (.slice A1 n1 c1) x2 (.slice A3 n3 c3) x4 x5 (.slice A6 n6 c6) x7 x8 (.slice A9 n9 c9) x10) ?_;clear HW;intro g2 pJ HW)|((with_reducible refine gd 3 rfl ?_);refine lbx (N:=3) (t:=42) HW (fC f0 f1 f2 f3) ?_;clear HW;intro g3 wR HW)|((with_reducible refine gd 4 rfl ?_);refine lbx (N:=4) (t:=31) HW zE ?_;clear HW;intro g4 Cv HW)|((with_reducible refine gd 8 rfl ?_);refine lE HW 2 0 ?_)|((with_reducible refine gd 10 rfl ?_);refine lls HW 1 2 _ Tryz.underlying3 ?_)|((with_reducible refine gq 49 rfl ?_);refine gl (some 11) Tryz.func49 #[(.agg (eC _ _ _ _ _ _ _ _ _ _ _).toArray),(.int .i64 f2)] ?_;with_reducible refine(Je f2 HW.out.ts.tw (N:=N) (C:=C) (HW.out.g.up (by omega)) (by omega)).mono ?_;rintro e zi ⟨LG,rfl,aGk,aGl,hb⟩;refine⟨_,rfl,?_⟩;replace HW:=ah.mk (HW.out.quiet hb);clear hb)|((with_reducible refine gd 13 rfl ?_);refine lls HW 1 3 _ Tryz.underlying9 ?_))
 by_cases zy:LG<0
 ·skip
  have Ql:=decide_eq_true zy
  refine mY HW (fun _=>True) [48] 51 (trivial) (fun zl HN hHeld=>?_)
  replace HW:=HN
  clear HN
  refine bK iA.tab3 iA.bits3 (fun HT_ HW_=>?_)
  refine pw 0 ?_
  refine pw 1 ?_
  refine pw 2 ?_
  refine pn 3 ?_
  refine pn 4 ?_
  refine pn 5 ?_
  refine pn 6 ?_
  refine pn 7 ?_
  refine pn 8 ?_
  refine pw 9 ?_
  refine pw 10 ?_
  refine pn 11 ?_
  refine pn 12 ?_
  refine pn 13 ?_
  refine pn 14 ?_
  refine pn 15 ?_
  refine pn 16 ?_
  refine pn 17 ?_
  refine pn 18 ?_
  refine pw 19 ?_
  refine pw 20 ?_
  refine pn 21 ?_
  refine pn 22 ?_
  refine pn 23 ?_
  refine pn 24 ?_
  refine pn 25 ?_
  refine pw 26 ?_
  refine pw 27 ?_
  refine pn 28 ?_
  refine pn 29 ?_
  refine pn 30 ?_
  refine pn 31 ?_
  refine pn 32 ?_
  refine pn 33 ?_
  refine pn 34 ?_
  refine pn 35 ?_
  refine pn 36 ?_
  refine pw 37 ?_
  refine pw 38 ?_
  refine pn 39 ?_
  refine pn 40 ?_
  refine pn 41 ?_
  refine pn 42 ?_
  refine pn 43 ?_
  refine pn 44 ?_
  refine pn 45 ?_
  refine pn 46 ?_
  refine pn 47 ?_
  refine pn 48 ?_
  refine pn 49 ?_
  refine pw 50 ?_
  refine dn ?_
  clear HT_ HW_
  go_wp2_with (first|((with_reducible refine gt 4 66 rfl ?_);refine ow HW 2 10 (.bool true) (eC _ _ _ _ _ _ _ _ _ _ _) ([_]) ?_ (gF rfl);clear HW;intro Cs HW)|((with_reducible refine gd 67 rfl ?_);refine lE HW 2 0 ?_)|((with_reducible refine gt 31 4 rfl ?_);refine iC HW 0 ?_;clear HW;intro zn HW))
  refine kP HW 0 Tryz.underlying31 ?_
  exact⟨_,_,rfl,HW.out.ts,⟨_,_,_,_,_,_,_,_,_,_,_,rfl,(HW.out.g.up (by omega))⟩⟩
 ·skip
  have Ql:=decide_eq_false zy
  have Bz:=(show 0≤LG∧LG<(n6:Int)from⟨by omega,by omega⟩)
  obtain⟨Qm,aqy,_,_⟩:=SL.has (HW.out.g.s6) (by omega)
  subst aqy
  obtain⟨s0_e1,s1_e1,u2_e1,s3_e1,s4_e1,s5_e1,s6_e1,u7_e1,s8_e1,s9_e1,s10_e1,s11_e1,hr_e1,hs_e1⟩:=HW.out.rd39 (HW.out.g.s6) (i:=LG) (by omega) (by omega)
  obtain⟨A2_e1,n2_e1,d2_e1,A7_e1,n7_e1,d7_e1,Ct,Cu⟩:=hs_e1.form
  subst Ct Cu
  replace HW:=ah.mk (LW.fact (H:=Jf b (.slice A2_e1 n2_e1 d2_e1) s3_e1 s6_e1 (.slice A7_e1 n7_e1 d7_e1) s8_e1) HW.out hs_e1 (Mon.st _ _ _ _ _))
  clear hs_e1
  have pi_e1:=eq_true Bz.1
  have qi_e1:=eq_true Bz.2
  have aaP:(s8_e1++f3).size≤1000000:=by rw[aK];have:=HW.out.g.2.s8;omega
  have I9:(9223372036854775807<s8_e1.size+f3.size)=False:=eq_false (by rw[aK]at aaP;omega)
  cases s9_e1 with
  |true=>
   refine mY HW (fun W=>W.rangeAt Qm (LG.toNat*12) (sC s0_e1 s1_e1 (.slice A2_e1 n2_e1 d2_e1) s3_e1 s4_e1 s5_e1 s6_e1 (.slice A7_e1 n7_e1 d7_e1) s8_e1 true s10_e1 s11_e1)) [48] 51 (hr_e1) (fun Ef HN hHeld=>?_)
   replace HW:=HN
   clear HN
   refine bK iA.tab3 iA.bits3 (fun HT_ HW_=>?_)
   refine pw 0 ?_
   refine pw 1 ?_
   refine pw 2 ?_
   refine pw 3 ?_
   refine tk 4 (some 19) (bm 51 31) rfl rfl hHeld ?_ (hy:=kG _ 2 6 _ Tryz.underlying26)
   refine pw 5 ?_
   refine pw 6 ?_
   refine pw 7 ?_
   refine tk 8 (some 23) (bm 51 511) rfl rfl hHeld ?_ (hy:=DK (.bool true) (fun W h=>((fun W h=>h)) W h 9 _ rfl) Tryz.underlying4)
   refine pw 9 ?_
   refine pw 10 ?_
   refine pn 11 ?_
   refine pn 12 ?_
   refine pn 13 ?_
   refine pn 14 ?_
   refine pn 15 ?_
   refine pn 16 ?_
   refine pn 17 ?_
   refine pn 18 ?_
   refine pw 19 ?_
   refine pw 20 ?_
   refine pn 21 ?_
   refine pn 22 ?_
   refine pn 23 ?_
   refine pn 24 ?_
   refine pn 25 ?_
   refine pw 26 ?_
   refine pw 27 ?_
   refine pn 28 ?_
   refine pn 29 ?_
   refine pn 30 ?_
   refine pn 31 ?_
   refine pn 32 ?_
   refine pn 33 ?_
   refine pn 34 ?_
   refine pn 35 ?_
   refine pn 36 ?_
   refine pw 37 ?_
   refine pw 38 ?_
   refine pn 39 ?_
   refine pn 40 ?_
   refine pn 41 ?_
   refine pn 42 ?_
   refine pn 43 ?_
   refine pn 44 ?_
   refine pn 45 ?_
   refine pn 46 ?_
   refine pn 47 ?_
   refine pn 48 ?_
   refine pn 49 ?_
   refine pw 50 ?_
   refine dn ?_
   clear HT_ HW_
   go_wp2_with (first|((with_reducible refine gt 4 66 rfl ?_);refine ow HW 2 10 (.bool true) (eC _ _ _ _ _ _ _ _ _ _ _) ([_]) ?_ (gF rfl);clear HW;intro zx HW)|((with_reducible refine gd 67 rfl ?_);refine lE HW 2 0 ?_)|((with_reducible refine gt 31 4 rfl ?_);refine iC HW 0 ?_;clear HW;intro Eg HW))
   refine kP HW 0 Tryz.underlying31 ?_
   exact⟨_,_,rfl,HW.out.ts,⟨_,_,_,_,_,_,_,_,_,_,_,rfl,(HW.out.g.1.up (by omega))⟩⟩
  |false=>
   by_cases Cx:(n7_e1:Int)=0
   ·skip
    have a2Q:((n7_e1:Int)==0)=true:=beq_iff_eq.mpr Cx
    have a2R:((n7_e1:Int) != 0)=false:=bne_eq_false_iff_eq.mpr Cx
    have aqz:=ah.mk Cx
    clear Cx
    refine mY HW (fun W=>W.rangeAt Qm (LG.toNat*12) (sC s0_e1 s1_e1 (.slice A2_e1 n2_e1 d2_e1) s3_e1 s4_e1 s5_e1 s6_e1 (.slice A7_e1 n7_e1 d7_e1) s8_e1 false s10_e1 s11_e1)) [48] 51 (hr_e1) (fun yh HN hHeld=>?_)
    replace HW:=HN
    clear HN
    refine bK iA.tab3 iA.bits3 (fun HT_ HW_=>?_)
    refine pw 0 ?_
    refine pw 1 ?_
    refine pw 2 ?_
    refine pw 3 ?_
    refine tk 4 (some 19) (bm 51 31) rfl rfl hHeld ?_ (hy:=kG _ 2 6 _ Tryz.underlying26)
    refine pw 5 ?_
    refine pw 6 ?_
    refine pw 7 ?_
    refine tk 8 (some 23) (bm 51 511) rfl rfl hHeld ?_ (hy:=DK (.bool false) (fun W h=>((fun W h=>h)) W h 9 _ rfl) Tryz.underlying4)
    refine pw 9 ?_
    refine pw 10 ?_
    refine pw 11 ?_
    refine tk 12 (some 27) (bm 51 8191) rfl rfl hHeld ?_ (hy:=kG _ 2 6 _ Tryz.underlying26)
    refine pw 13 ?_
    refine pw 14 ?_
    refine pw 15 ?_
    refine tk 16 (some 31) (bm 51 131071) rfl rfl hHeld ?_ (hy:=DK (.slice A7_e1 n7_e1 d7_e1) (fun W h=>((fun W h=>h)) W h 7 _ rfl) Tryz.underlying23)
    refine pw 17 ?_
    refine pw 18 ?_
    refine pw 19 ?_
    refine pw 20 ?_
    refine pn 21 ?_
    refine pn 22 ?_
    refine pn 23 ?_
    refine pn 24 ?_
    refine pn 25 ?_
    refine pw 26 ?_
    refine pw 27 ?_
    refine pn 28 ?_
    refine pn 29 ?_
    refine pn 30 ?_
    refine pn 31 ?_
    refine pn 32 ?_
    refine pn 33 ?_
    refine pn 34 ?_
    refine pn 35 ?_
    refine pn 36 ?_
    refine pw 37 ?_
    refine pw 38 ?_
    refine pn 39 ?_
    refine pn 40 ?_
    refine pn 41 ?_
    refine pn 42 ?_
    refine pn 43 ?_
    refine pn 44 ?_
    refine pn 45 ?_
    refine pn 46 ?_
    refine pn 47 ?_
    refine pn 48 ?_
    refine pn 49 ?_
    refine pw 50 ?_
    refine dn ?_
    clear HT_ HW_
    go_wp2_with (first|((with_reducible refine gt 4 66 rfl ?_);refine ow HW 2 10 (.bool true) (eC _ _ _ _ _ _ _ _ _ _ _) ([_]) ?_ (gF rfl);clear HW;intro zo HW)|((with_reducible refine gd 67 rfl ?_);refine lE HW 2 0 ?_)|((with_reducible refine gt 31 4 rfl ?_);refine iC HW 0 ?_;clear HW;intro vP HW))
    refine kP HW 0 Tryz.underlying31 ?_
    exact⟨_,_,rfl,HW.out.ts,⟨_,_,_,_,_,_,_,_,_,_,_,rfl,(HW.out.g.1.up (by omega))⟩⟩
   ·skip
    have a2Q:((n7_e1:Int)==0)=false:=beq_eq_false_iff_ne.mpr Cx
    have a2R:((n7_e1:Int) != 0)=true:=bne_iff_ne.mpr Cx
    by_cases c119:(f3.size:Int)>x8
    ·skip
     have WN:=decide_eq_true c119
     refine mY HW (fun W=>W.rangeAt Qm (LG.toNat*12) (sC s0_e1 s1_e1 (.slice A2_e1 n2_e1 d2_e1) s3_e1 s4_e1 s5_e1 s6_e1 (.slice A7_e1 n7_e1 d7_e1) s8_e1 false s10_e1 s11_e1)) [48] 51 (hr_e1) (fun Cq HN hHeld=>?_)
     replace HW:=HN
     clear HN
     refine bK iA.tab3 iA.bits3 (fun HT_ HW_=>?_)
     refine pw 0 ?_
     refine pw 1 ?_
     refine pw 2 ?_
     refine pw 3 ?_
     refine tk 4 (some 19) (bm 51 31) rfl rfl hHeld ?_ (hy:=kG _ 2 6 _ Tryz.underlying26)
     refine pw 5 ?_
     refine pw 6 ?_
     refine pw 7 ?_
     refine tk 8 (some 23) (bm 51 511) rfl rfl hHeld ?_ (hy:=DK (.bool false) (fun W h=>((fun W h=>h)) W h 9 _ rfl) Tryz.underlying4)
     refine pw 9 ?_
     refine pw 10 ?_
     refine pw 11 ?_
     refine tk 12 (some 27) (bm 51 8191) rfl rfl hHeld ?_ (hy:=kG _ 2 6 _ Tryz.underlying26)
     refine pw 13 ?_
     refine pw 14 ?_
     refine pw 15 ?_
     refine tk 16 (some 31) (bm 51 131071) rfl rfl hHeld ?_ (hy:=DK (.slice A7_e1 n7_e1 d7_e1) (fun W h=>((fun W h=>h)) W h 7 _ rfl) Tryz.underlying23)
     refine pw 17 ?_
     refine pw 18 ?_
     refine pw 19 ?_
     refine pw 20 ?_
     refine pw 21 ?_
     refine pw 22 ?_
     refine pw 23 ?_
     refine tk 24 (some 39) (bm 51 33554431) rfl rfl hHeld ?_ (hy:=kG _ 2 8 _ Tryz.underlying3)
     refine pw 25 ?_
     refine pw 26 ?_
     refine pw 27 ?_
     refine pn 28 ?_
     refine pn 29 ?_
     refine pn 30 ?_
     refine pn 31 ?_
     refine pn 32 ?_
     refine pn 33 ?_
     refine pn 34 ?_
     refine pn 35 ?_
     refine pn 36 ?_
     refine pw 37 ?_
     refine pw 38 ?_
     refine pn 39 ?_
     refine pn 40 ?_
     refine pn 41 ?_
     refine pn 42 ?_
     refine pn 43 ?_
     refine pn 44 ?_
     refine pn 45 ?_
     refine pn 46 ?_
     refine pn 47 ?_
     refine pn 48 ?_
     refine pn 49 ?_
     refine pw 50 ?_
     refine dn ?_
     clear HT_ HW_
     go_wp2_with (first|((with_reducible refine gt 4 66 rfl ?_);refine ow HW 2 10 (.bool true) (eC _ _ _ _ _ _ _ _ _ _ _) ([_]) ?_ (gF rfl);clear HW;intro zu HW)|((with_reducible refine gd 67 rfl ?_);refine lE HW 2 0 ?_)|((with_reducible refine gt 31 4 rfl ?_);refine iC HW 0 ?_;clear HW;intro zw HW))
     refine kP HW 0 Tryz.underlying31 ?_
     exact⟨_,_,rfl,HW.out.ts,⟨_,_,_,_,_,_,_,_,_,_,_,rfl,(HW.out.g.1.up (by omega))⟩⟩
    ·skip
     have WN:=decide_eq_false c119
     by_cases Qc:(f3.size:Int)>s11_e1
     ·skip
      have aqA:=decide_eq_true Qc
      refine mY HW (fun W=>W.rangeAt Qm (LG.toNat*12) (sC s0_e1 s1_e1 (.slice A2_e1 n2_e1 d2_e1) s3_e1 s4_e1 s5_e1 s6_e1 (.slice A7_e1 n7_e1 d7_e1) s8_e1 false s10_e1 s11_e1)) [48] 51 (hr_e1) (fun Eh HN hHeld=>?_)
      replace HW:=HN
      clear HN
      refine bK iA.tab3 iA.bits3 (fun HT_ HW_=>?_)
      refine pw 0 ?_
      refine pw 1 ?_
      refine pw 2 ?_
      refine pw 3 ?_
      refine tk 4 (some 19) (bm 51 31) rfl rfl hHeld ?_ (hy:=kG _ 2 6 _ Tryz.underlying26)
      refine pw 5 ?_
      refine pw 6 ?_
      refine pw 7 ?_
      refine tk 8 (some 23) (bm 51 511) rfl rfl hHeld ?_ (hy:=DK (.bool false) (fun W h=>((fun W h=>h)) W h 9 _ rfl) Tryz.underlying4)
      refine pw 9 ?_
      refine pw 10 ?_
      refine pw 11 ?_
      refine tk 12 (some 27) (bm 51 8191) rfl rfl hHeld ?_ (hy:=kG _ 2 6 _ Tryz.underlying26)
      refine pw 13 ?_
      refine pw 14 ?_
      refine pw 15 ?_
      refine tk 16 (some 31) (bm 51 131071) rfl rfl hHeld ?_ (hy:=DK (.slice A7_e1 n7_e1 d7_e1) (fun W h=>((fun W h=>h)) W h 7 _ rfl) Tryz.underlying23)
      refine pw 17 ?_
      refine pw 18 ?_
      refine pw 19 ?_
      refine pw 20 ?_
      refine pw 21 ?_
      refine pw 22 ?_
      refine pw 23 ?_
      refine tk 24 (some 39) (bm 51 33554431) rfl rfl hHeld ?_ (hy:=kG _ 2 8 _ Tryz.underlying3)
      refine pw 25 ?_
      refine pw 26 ?_
      refine pw 27 ?_
      refine pw 28 ?_
      refine pw 29 ?_
      refine tk 30 (some 45) (bm 51 2147483647) rfl rfl hHeld ?_ (hy:=kG _ 2 6 _ Tryz.underlying26)
      refine pw 31 ?_
      refine pw 32 ?_
      refine pw 33 ?_
      refine pw 34 ?_
      refine tk 35 (some 50) (bm 51 68719476735) rfl rfl hHeld ?_ (hy:=DK (.int .i64 s11_e1) (fun W h=>((fun W h=>h)) W h 11 _ rfl) Tryz.underlying3)
      refine pw 36 ?_
      refine pw 37 ?_
      refine pw 38 ?_
      refine pn 39 ?_
      refine pn 40 ?_
      refine pn 41 ?_
      refine pn 42 ?_
      refine pn 43 ?_
      refine pn 44 ?_
      refine pn 45 ?_
      refine pn 46 ?_
      refine pn 47 ?_
      refine pn 48 ?_
      refine pn 49 ?_
      refine pw 50 ?_
      refine dn ?_
      clear HT_ HW_
      go_wp2_with (first|((with_reducible refine gt 4 66 rfl ?_);refine ow HW 2 10 (.bool true) (eC _ _ _ _ _ _ _ _ _ _ _) ([_]) ?_ (gF rfl);clear HW;intro GJ HW)|((with_reducible refine gd 67 rfl ?_);refine lE HW 2 0 ?_)|((with_reducible refine gt 31 4 rfl ?_);refine iC HW 0 ?_;clear HW;intro GK HW))
      refine kP HW 0 Tryz.underlying31 ?_
      exact⟨_,_,rfl,HW.out.ts,⟨_,_,_,_,_,_,_,_,_,_,_,rfl,(HW.out.g.1.up (by omega))⟩⟩
     ·skip
      have aqA:=decide_eq_false Qc
      refine mY HW (fun W=>W.rangeAt Qm (LG.toNat*12) (sC s0_e1 s1_e1 (.slice A2_e1 n2_e1 d2_e1) s3_e1 s4_e1 s5_e1 s6_e1 (.slice A7_e1 n7_e1 d7_e1) s8_e1 false s10_e1 s11_e1)) [48] 51 (hr_e1) (fun LF HN hHeld=>?_)
      replace HW:=HN
      clear HN
      refine bK iA.tab3 iA.bits3 (fun HT_ HW_=>?_)
      refine pw 0 ?_
      refine pw 1 ?_
      refine pw 2 ?_
      refine pw 3 ?_
      refine tk 4 (some 19) (bm 51 31) rfl rfl hHeld ?_ (hy:=kG _ 2 6 _ Tryz.underlying26)
      refine pw 5 ?_
      refine pw 6 ?_
      refine pw 7 ?_
      refine tk 8 (some 23) (bm 51 511) rfl rfl hHeld ?_ (hy:=DK (.bool false) (fun W h=>((fun W h=>h)) W h 9 _ rfl) Tryz.underlying4)
      refine pw 9 ?_
      refine pw 10 ?_
      refine pw 11 ?_
      refine tk 12 (some 27) (bm 51 8191) rfl rfl hHeld ?_ (hy:=kG _ 2 6 _ Tryz.underlying26)
      refine pw 13 ?_
      refine pw 14 ?_
      refine pw 15 ?_
      refine tk 16 (some 31) (bm 51 131071) rfl rfl hHeld ?_ (hy:=DK (.slice A7_e1 n7_e1 d7_e1) (fun W h=>((fun W h=>h)) W h 7 _ rfl) Tryz.underlying23)
      refine pw 17 ?_
      refine pw 18 ?_
      refine pw 19 ?_
      refine pw 20 ?_
      refine pw 21 ?_
      refine pw 22 ?_
      refine pw 23 ?_
      refine tk 24 (some 39) (bm 51 33554431) rfl rfl hHeld ?_ (hy:=kG _ 2 8 _ Tryz.underlying3)
      refine pw 25 ?_
      refine pw 26 ?_
      refine pw 27 ?_
      refine pw 28 ?_
      refine pw 29 ?_
      refine tk 30 (some 45) (bm 51 2147483647) rfl rfl hHeld ?_ (hy:=kG _ 2 6 _ Tryz.underlying26)
      refine pw 31 ?_
      refine pw 32 ?_
      refine pw 33 ?_
      refine pw 34 ?_
      refine tk 35 (some 50) (bm 51 68719476735) rfl rfl hHeld ?_ (hy:=DK (.int .i64 s11_e1) (fun W h=>((fun W h=>h)) W h 11 _ rfl) Tryz.underlying3)
      refine pw 36 ?_
      refine pw 37 ?_
      refine pw 38 ?_
      refine pw 39 ?_
      refine tk 40 (some 55) (bm 51 2199023255551) rfl rfl hHeld ?_ (hy:=kG _ 2 6 _ Tryz.underlying26)
      refine pw 41 ?_
      refine pw 42 ?_
      refine pw 43 ?_
      refine tk 44 (some 59) (bm 51 35184372088831) rfl rfl hHeld ?_ (hy:=DK (.string s8_e1) (fun W h=>((fun W h=>h)) W h 8 _ rfl) Tryz.underlying9)
      refine pw 45 ?_
      refine tk 46 (some 61) (bm 51 140737488355327) rfl rfl hHeld ?_ (hy:=kG _ 1 3 _ Tryz.underlying9)
      refine pw 47 ?_
      refine la 48 (bm 51 562949953421311) fun K hK=>?_
      refine gs Tryz.func55 #[(.string (s8_e1++f3))] ?_
      with_reducible refine(Jg (s8_e1++f3) aaP).mono ?_
      rintro e SN ⟨aqB,rfl,aaQ,hb⟩
      refine⟨_,rfl,?_⟩
      have aGm:=fo hHeld.2 hb
      replace HW:=ah.mk (HW.out.quiet hb)
      clear hb
      refine hK.out _ _ ?_
      clear hK K
      refine nm ?_
      refine pw 49 ?_
      refine pw 50 ?_
      refine dn ?_
      clear HT_ HW_
      go_upto_if 65 with(fail)
      cases aqB with
      |true=>
       go_upto_region 6 with(fail)
       have ah3:=aaQ rfl
       go_upto_if 94 with(first|((with_reducible refine gd 69 rfl ?_);refine lls HW 2 6 _ Tryz.underlying26 ?_)|((with_reducible refine gd 72 rfl ?_);refine lrw (cs:=sC s0_e1 s1_e1 (.slice A2_e1 n2_e1 d2_e1) s3_e1 s4_e1 s5_e1 s6_e1 (.slice A7_e1 n7_e1 d7_e1) s8_e1 false s10_e1 s11_e1) aGm Tryz.underlying39 ?_)|((with_reducible refine gd 7 rfl ?_);refine lbx (N:=7) (t:=39) HW zS ?_;clear HW;intro g7 Qh HW)|((with_reducible refine gt 39 7 rfl ?_);refine iC HW 0 ?_;clear HW;intro aaR HW)|((with_reducible refine gd 74 rfl ?_);refine lls HW 0 8 _ Tryz.underlying9 ?_)|((with_reducible refine gd 76 rfl ?_);refine lls HW 2 3 _ Tryz.underlying9 ?_)|((with_reducible refine gt 9 78 rfl ?_);refine ow HW 0 8 (.string (s8_e1++f3)) (sC _ _ _ _ _ _ _ _ _ _ _ _) ([_]) ?_ (gF rfl);clear HW;intro a2H HW)|((with_reducible refine gd 81 rfl ?_);refine lls HW 0 11 _ Tryz.underlying3 ?_)|((with_reducible refine gt 3 85 rfl ?_);refine lsi HW 0 11 (fun q=>sC s0_e1 s1_e1 (.slice A2_e1 n2_e1 d2_e1) s3_e1 s4_e1 s5_e1 s6_e1 (.slice A7_e1 n7_e1 d7_e1) (s8_e1++f3) false s10_e1 q) ?_;clear HW;intro aqC a2I HW)|((with_reducible refine gd 88 rfl ?_);refine lls HW 3 8 _ Tryz.underlying3 ?_)|((with_reducible refine gt 3 92 rfl ?_);refine lsi HW 3 8 (fun q=>eC x0 (.slice A1 n1 c1) x2 (.slice A3 n3 c3) x4 x5 (.slice (some ⟨Qm,0,none⟩) n6 c6) x7 q (.slice A9 n9 c9) x10) ?_;clear HW;intro ahX aaN HW))
       go_cut [] (fun wq=>∃(Mq:Nat→Nat→Prop)(A9q:Option Addr)(n9q:Nat)(c9q:Nat),ah (LW b NX M w [⟨g7,sC s0_e1 s1_e1 (.slice A2_e1 n2_e1 d2_e1) s3_e1 s4_e1 s5_e1 s6_e1 (.slice A7_e1 n7_e1 d7_e1) (s8_e1++f3) false s10_e1 aqC,39⟩,⟨g4,eC false (.slice none 0 0) 0 (.slice none 0 0) 0 (⟨#[]⟩:ByteArray) (.slice none 0 0) 0 0 (.slice none 0 0) false,31⟩,⟨g3,fC f0 f1 f2 f3,42⟩,⟨g2,eC x0 (.slice A1 n1 c1) x2 (.slice A3 n3 c3) x4 x5 (.slice (some ⟨Qm,0,none⟩) n6 c6) x7 ahX (.slice A9q n9q c9q) x10,31⟩] (fun M w=>(((xW b N C (.slice A1 n1 c1) x2 (.slice A3 n3 c3) x4 x5 (.slice (some ⟨Qm,0,none⟩) n6 c6) (.slice A9 n9 c9)) M w)∧(Jf b (.slice A2_e1 n2_e1 d2_e1) s3_e1 s6_e1 (.slice A7_e1 n7_e1 d7_e1) s8_e1) M w)∧(Yh 42 (N+2) (.slice A9q n9q c9q)) M w) Mq wq))
       case first=>
        by_cases aqD:(f3.size:Int)>0
        ·skip
         have aqE:=decide_eq_true aqD
         go_upto_region 11 with(fail)
         refine mY HW (fun _=>True) [11,13] 14 (trivial) (fun ahY HN hHeld=>?_)
         replace HW:=HN
         clear HN
         refine bK iA.tab11 iA.bits11 (fun HT_ HW_=>?_)
         refine pw 0 ?_
         refine tk 1 (some 96) (bm 14 3) rfl rfl hHeld ?_ (hy:=kG _ 3 9 _ Tryz.underlying29)
         refine pw 2 ?_
         refine pw 5 ?_
         refine tk 6 (some 101) (bm 14 103) rfl rfl hHeld ?_ (hy:=kG _ 0 0 _ Tryz.underlying3)
         refine pw 7 ?_
         refine on 3 (bm 14 239) fun K hK=>?_
         refine gs Tryz.func59 #[(.int .i64 (f3.size:Int))] ?_
         with_reducible refine(Wq (f3.size:Int)).mono ?_
         rintro e aqF ⟨adP,rfl,aaS,hb⟩
         refine⟨_,rfl,?_⟩
         replace HW:=ah.mk (HW.out.quiet hb)
         clear hb
         refine hK.out _ _ ⟨HW.out.bxs,trivial⟩ (fun hHeld=>?_)
         clear hK K
         refine nm ?_
         refine pw 4 ?_
         refine on 8 (bm 14 511) fun K hK=>?_
         refine gs Tryz.func59 #[(.int .i64 (f3.size:Int))] ?_
         with_reducible refine(Wq (f3.size:Int)).mono ?_
         rintro e aqG ⟨adQ,rfl,aaT,hb⟩
         refine⟨_,rfl,?_⟩
         replace HW:=ah.mk (HW.out.quiet hb)
         clear hb
         refine hK.out _ _ ⟨HW.out.bxs,trivial⟩ (fun hHeld=>?_)
         clear hK K
         refine nm ?_
         refine pw 9 ?_
         refine on 10 (bm 14 2047) fun K hK=>?_
         refine jX (by rfl) ?_
         refine a2l (t:=42) (m:=2) HW (fC 8 false 0 adP++fC 8 false s0_e1 adQ) ?_
         clear HW
         intro aTs a2L HW
         refine hK.out _ _ ⟨HW.out.drop.bxs,trivial⟩ (fun hHeld=>?_)
         clear hK K
         refine nm ?_
         refine la 11 (bm 14 4095) fun K hK=>?_
         refine jX (by rfl) ?_
         refine a2m (T:=42) (m:=2) (bytes:=40) (z:=.agg (fC 0 false 0 (⟨#[]⟩:ByteArray)).toArray) (news:=fC 8 false 0 adP++fC 8 false s0_e1 adQ) HW (HW.out.g.1.s9) (HW.out.hb hb0) rfl (z8 HW.out (i:=0) rfl) (gF rfl) (by decide) (agY (.inr (.inl ⟨rfl,_,_,_,_,rfl,(a2p aaS)⟩)) (.inr (.inl ⟨rfl,_,_,_,_,rfl,(a2p aaT)⟩))) (by kernel_rfl) (by rfl) (by decide) (by omega) (by simp only[maxLen];omega) Tryz.underlying29 ?_
         intro aqH c143 aTt ahN HN gT qf
         replace HW:=ah.mk (LW.fact (H:=Yh 42 (N+2) (.slice aqH (n9+2) c143)) HN.out qf (Mon.sl _ _ _))
         clear HN qf gT
         refine hK.out _ _ ?_
         clear hK K
         refine nm ?_
         refine pw 12 ?_
         refine la 13 (bm 14 16383) fun K hK=>?_
         refine jX (by rfl) ?_
         refine rA HW 4 9 (.slice aqH (n9+2) c143) (eC _ _ _ _ _ _ _ _ _ _ _) ([_]) ?_ (gF rfl)
         clear HW
         intro aaz HW
         refine hK.out _ _ ?_
         clear hK K
         refine dn ?_
         clear HT_ HW_
         go_wp2_with (fail)
         go_meet
         exact⟨_,_,_,_,⟨LW.less HW.out.drop ⟨⟨(HW.out.g.1.1.up (by omega)),HW.out.g.1.2⟩,(HW.out.g.2.mono (N':=(N+2)) (by omega))⟩ (Mon.and (Mon.and (Mon.et _ _ _ _ _ _ _ _ _) (Mon.st _ _ _ _ _)) (Mon.sl _ _ _))⟩⟩
        ·skip
         have aqE:=decide_eq_false aqD
         go_wp2_with (fail)
         go_meet
         exact⟨_,_,_,_,⟨LW.less HW.out ⟨⟨(HW.out.g.1.up (by omega)),HW.out.g.2⟩,(HW.out.g.1.s9.mono (N':=(N+2)) (by omega))⟩ (Mon.and (Mon.and (Mon.et _ _ _ _ _ _ _ _ _) (Mon.st _ _ _ _ _)) (Mon.sl _ _ _))⟩⟩
       case rest=>
        obtain⟨Mq,A9q,n9q,c9q,HC⟩:=hcut
        try clear HW
        have HW:=HC
        clear HC
        go_upto_if 109 with(first|((with_reducible refine gd 109 rfl ?_);refine lls HW 2 1 _ Tryz.underlying4 ?_))
        cases f1 with
        |true=>
         go_wp2_with (first|((with_reducible refine gd 110 rfl ?_);refine lE HW 3 0 ?_)|((with_reducible refine gd 111 rfl ?_);refine lS HW 0 0 ?_)|((with_reducible refine gq 107 rfl ?_);refine gl (some 112) Tryz.func107 #[(.agg (eC _ _ _ _ _ _ _ _ _ _ _).toArray),(.agg (sC _ _ _ _ _ _ _ _ _ _ _ _).toArray)] ?_;with_reducible refine(GR HW.out.ts.tw (HW.out.hb hb0) (N:=(N+2)) (C:=C) ⟨HW.out.g.1.1.t1,HW.out.g.1.1.t3,HW.out.g.1.1.c5,(HW.out.g.1.1.s6.mono (N':=(N+2)) (by omega)),(HW.out.g.2.mono (N':=(N+2)) (by omega))⟩ (by omega) ⟨HW.out.g.1.2.h2,HW.out.g.1.2.h7,HW.out.g.1.2.s0,HW.out.g.1.2.s1,HW.out.g.1.2.s3,ah3⟩).mono ?_;rintro e ahz h_;obtain⟨E_,M_146,rfl,gT,hE_⟩:=h_.out;refine⟨_,rfl,?_⟩;obtain⟨aGn,aGo,u2_,ahZ,aGp,aGq,ai0,u7_,ai1,aGr,aA9,aAa,rfl,hF_⟩:=hE_.out;clear hE_;obtain⟨ai2,ai3,ai4,ai5,ai6,ai7,Ct,Cu⟩:=hF_.form;subst Ct Cu;replace HW:=ah.mk ((HW.out.call gT).st hF_);clear gT hF_)|((with_reducible refine gt 39 7 rfl ?_);refine iC HW 0 ?_;clear HW;intro aqI HW)|((with_reducible refine gd 114 rfl ?_);refine lls HW 3 6 _ Tryz.underlying26 ?_)|((with_reducible refine gd 116 rfl ?_);refine lS HW 0 0 ?_)|((with_reducible refine gt 39 117 rfl ?_);have hS_:ST b _ (.slice ai2 ai3 ai4) ahZ ai0 (.slice ai5 ai6 ai7) ai1:=HW.out.g.2;refine Yz HW (HW.out.g.1.1.1.s6) Bz.1 Bz.2 hS_ ?_;clear HW;intro aaC HW;clear hS_)|((with_reducible refine gd 118 rfl ?_);refine lE HW 3 0 ?_)|((with_reducible refine gt 31 4 rfl ?_);refine iC HW 1 ?_;clear HW;intro a2P HW))
         refine kP HW 1 Tryz.underlying31 ?_
         exact⟨_,_,rfl,HW.out.ts,⟨_,_,_,_,_,_,_,_,_,_,_,rfl,⟨HW.out.g.1.1.1.t1,HW.out.g.1.1.1.t3,HW.out.g.1.1.1.c5,(HW.out.g.1.1.1.s6.mono (N':=(N+2)) (by omega)),(HW.out.g.1.2.mono (N':=(N+2)) (by omega))⟩⟩⟩
        |false=>
         go_wp2_with (first|((with_reducible refine gd 114 rfl ?_);refine lls HW 3 6 _ Tryz.underlying26 ?_)|((with_reducible refine gd 116 rfl ?_);refine lS HW 0 0 ?_)|((with_reducible refine gt 39 117 rfl ?_);have hS_:ST b _ (.slice A2_e1 n2_e1 d2_e1) s3_e1 s6_e1 (.slice A7_e1 n7_e1 d7_e1) (s8_e1++f3):=⟨HW.out.g.1.2.h2,HW.out.g.1.2.h7,HW.out.g.1.2.s0,HW.out.g.1.2.s1,HW.out.g.1.2.s3,ah3⟩;refine Yz HW (HW.out.g.1.1.s6) Bz.1 Bz.2 hS_ ?_;clear HW;intro Yj HW;clear hS_)|((with_reducible refine gd 118 rfl ?_);refine lE HW 3 0 ?_)|((with_reducible refine gt 31 4 rfl ?_);refine iC HW 1 ?_;clear HW;intro ai8 HW))
         refine kP HW 1 Tryz.underlying31 ?_
         exact⟨_,_,rfl,HW.out.ts,⟨_,_,_,_,_,_,_,_,_,_,_,rfl,⟨HW.out.g.1.1.t1,HW.out.g.1.1.t3,HW.out.g.1.1.c5,(HW.out.g.1.1.s6.mono (N':=(N+2)) (by omega)),(HW.out.g.2.mono (N':=(N+2)) (by omega))⟩⟩⟩
      |false=>
       go_wp2_with (first|((with_reducible refine gt 4 66 rfl ?_);refine ow HW 2 10 (.bool true) (eC _ _ _ _ _ _ _ _ _ _ _) ([_]) ?_ (gF rfl);clear HW;intro aaD HW)|((with_reducible refine gd 67 rfl ?_);refine lE HW 2 0 ?_)|((with_reducible refine gt 31 4 rfl ?_);refine iC HW 0 ?_;clear HW;intro aaO HW))
       refine kP HW 0 Tryz.underlying31 ?_
       exact⟨_,_,rfl,HW.out.ts,⟨_,_,_,_,_,_,_,_,_,_,_,rfl,(HW.out.g.1.up (by omega))⟩⟩
def jQ.T4:Bool×List (List Nat×List Nat):=(true,[([],[]),([0],[0]),([1],[1]),([2],[2]),([3,2],[3]),([4],[4]),([5,4],[4,5]),([6,4,4],[4,6]),([7],[7]),([8,7],[7,8]),([7],[7]),([10,7],[7,10]),([7],[7]),([12,7],[7,12]),([11,13,7],[7,11,13]),([14,7],[7,14]),([15,7],[7,15]),([9,16,7],[7,9,16]),([7,17,4],[4,7,17]),([4,18],[4,18]),([19,7],[19]),([20],[20]),([21,20],[20,21]),([22,20],[20,22]),([23,20,20],[20,23]),([24],[24]),([25,24],[24,25]),([24],[24]),([27,24],[24,27]),([28,24],[24,28]),([26,29,24],[24,26,29]),([24,30,20],[20,24,30]),([20,31],[20,31]),([32,24],[32]),([33],[33]),([34,33,33],[33,34]),([35,33],[33,35]),([33,36],[33,36])])
def jQ.B4:List Nat:=[0,1,3,7,15,31,63,127,255,511,255,1279,255,4351,15615,31999,64767,131071,262143,524287,1048575,2097151,4194303,8388607,16777215,33554431,67108863,33554431,167772159,436207615,1073741823,2147483647,4294967295,8589934591,17179869183,34359738367,68719476735,137438953471]
theorem jQ.tab4:jG .any (opsOf Tryz.f14 4)=jQ.T4:=by kernel_rfl
theorem jQ.bits4:fQ jQ.T4.2 jQ.B4=true:=by kernel_rfl
theorem mG{w:World}{v1 v3 v6 v9:Value}{l1 l3:List bf}{l6:List uF}{l9:List jS}{x0 x10 r:Bool}{x2 x4 x7 x8:Int}{x5:ByteArray}(hE:I6 w v1 l1 v3 l3 v6 l6 v9 l9)(hs:SmE l1 l3 x5 l6 l9)(hr:vG x0 l1 x2 l3 x4 x5 l6 x7 x8 l9=r):Calls Tryz.prog 14 #[.agg (eC x0 v1 x2 v3 x4 x5 v6 x7 x8 v9 x10).toArray] w fun e w'=>e= .returned (.bool r)∧Below w.heap.size w w':=by
 obtain⟨b,hbe⟩:∃b,b=w.heap.size:=⟨_,rfl⟩
 have hw:TW b rE w:=.none _ _
 obtain⟨A1,c1,e_,_⟩:=hE.r1
 subst e_
 obtain⟨A3,c3,e_,_⟩:=hE.r3
 subst e_
 obtain⟨A6,c6,e_,aGs,C6,ai9⟩:=hE.r6
 subst e_
 have aGt:=C6.2.1
 clear C6
 obtain⟨A9,c9,e_,aGu,C9,aqJ⟩:=hE.r9
 subst e_
 have aGv:=C9.2.1
 clear C9
 obtain⟨tk1,H6⟩:∃t,ah (eO l1 x2=t):=⟨_,⟨rfl⟩⟩
 obtain⟨tk3,LH⟩:∃t,ah (eO l3 x4=t):=⟨_,⟨rfl⟩⟩
 obtain⟨fl,hfl⟩:∃t,ah (qc x7 x8=t):=⟨_,⟨rfl⟩⟩
 obtain⟨nP,sZ,LJ,⟨aGw,H7⟩,aGx,_⟩:=hs
 have HW:ah (LW b NX rE w [] (fun _ _=>True) rE w):=⟨LW.start hw trivial (Mon.top _)⟩
 clear hw
 go_enter Tryz.func14,Tryz.ntmps14
 have hI0:LI x0 l6 (wP l1 x2 l3 x4 x5 x7 x8 l9) r 0:=hr.symm
 obtain⟨af,haf⟩:∃t,ah (l9.all iR=t):=⟨_,⟨rfl⟩⟩
 go_wp2_with (first|((with_reducible refine gd 1 rfl ?_);refine lbx (N:=1) (t:=31) HW (eC x0 (.slice A1 l1.length c1) x2 (.slice A3 l3.length c3) x4 x5 (.slice A6 l6.length c6) x7 x8 (.slice A9 l9.length c9) x10) ?_;clear HW;intro g1 pJ HW)|((with_reducible refine gd 6 rfl ?_);refine lls HW 0 6 _ Tryz.underlying26 ?_))
 go_loopg [8] (l6.length) (fun kq y8 wq=>∃(Mq:Nat→Nat→Prop)(iq:Int),(y8= .int .i64 iq)∧ah (0≤iq∧iq≤(l6.length:Int)∧l6.length-iq.toNat≤kq∧LI x0 l6 (wP l1 x2 l3 x4 x5 x7 x8 l9) r iq)∧ah (LW b NX rE w [⟨g1,eC x0 (.slice A1 l1.length c1) x2 (.slice A3 l3.length c3) x4 x5 (.slice A6 l6.length c6) x7 x8 (.slice A9 l9.length c9) x10,31⟩] (fun _ _=>True) Mq wq))
 case atStart=>exact⟨_,_,rfl,⟨⟨(by omega),(by omega),(by simp),hI0⟩⟩,⟨LW.less HW.out trivial (Mon.top _)⟩⟩
 case round=>
  clear HW
  obtain⟨Mq,iq,rfl,HI,HC⟩:=hrel
  have HW:=HC
  clear HC
  obtain⟨aaU,aaV,aaW,LK⟩:=HI.out
  have hI:=LK
  go_upto_if 9 with(fail)
  by_cases LM:iq<(l6.length:Int)
  ·skip
   have WO:=decide_eq_true LM
   go_upto_region 3 with(fail)
   obtain⟨k6,ek_⟩:=ai9 (by omega)
   subst ek_
   obtain⟨p_e,A2_e,d2_e,A7_e,d7_e,tq,wT,uz,q2_e,C2_e,q7_e,C7_e⟩:=hE.el39 (i:=iq) (by omega) (by omega)
   obtain⟨ti,uD⟩:∃t,ah (uq p_e.f0=t):=⟨_,⟨rfl⟩⟩
   obtain⟨ts,yj⟩:∃t,ah (lD p_e=t):=⟨_,⟨rfl⟩⟩
   have YA:=eq_true (show(0:Int)≤iq by omega)
   have YB:=eq_true (show iq<(l6.length:Int) by omega)
   have tu:ah (wrap64 (wrap64 (2*iq)+1)=2*iq+1):=⟨by rw[dL (2*iq) (by omega) (by omega),dL _ (by omega) (by omega)]⟩
   go_upto_region 4 with(first|((with_reducible refine gd 12 rfl ?_);refine lrw (cs:=sC p_e.f0 p_e.f1 (.slice A2_e p_e.f2.length d2_e) p_e.f3 p_e.f4 p_e.f5 p_e.f6 (.slice A7_e p_e.f7.length d7_e) p_e.f8 p_e.f9 p_e.f10.f0 p_e.f10.f1) (fo uz (HW.out.underN hbe (Below.refl _ _) (.none _ _))) Tryz.underlying39 ?_)|((with_reducible refine gd 4 rfl ?_);refine lbx (N:=4) (t:=39) HW zS ?_;clear HW;intro g4 Ee HW)|((with_reducible refine gt 39 4 rfl ?_);refine iC HW 0 ?_;clear HW;intro zi HW))
   go_upto_region 4 with(fail)
   cases ti with
   |true=>
    by_cases c107:iq>0
    ·skip
     have Jr:=decide_eq_true c107
     have H8:ah (wrap64 (iq-1)=iq-1):=⟨dL _ (by omega) (by omega)⟩
     have pj_:=eq_true (show(0:Int)≤wrap64 (iq-1) by have h_:=H8.out;omega)
     have qj_:=eq_true (show wrap64 (iq-1)<(l6.length:Int) by have h_:=H8.out;omega)
     obtain⟨p_y,A2_y,d2_y,A7_y,d7_y,hp_y,hpm_y,hre_y,q2_y,C2_y,q7_y,C7_y⟩:=hE.el39 (i:=wrap64 (iq-1)) (by have h_:=H8.out;omega) (by have h_:=H8.out;omega)
     have tF:fV l6 (iq-1)=p_y:=by rw[←H8.out];exact hp_y
     by_cases wS:p_e.f0≤p_y.f0
     ·skip
      have Jm:=decide_eq_true wS
      refine mY HW (fun W=>Below w.heap.size w W) [35] 38 ((HW.out.drew.underN hbe (Below.refl _ _) (.none _ _))) (fun zn HN hHeld=>?_)
      replace HW:=HN
      clear HN
      refine bK jQ.tab4 jQ.bits4 (fun HT_ HW_=>?_)
      refine pw 0 ?_
      refine tk 1 (some 14) (bm 38 3) rfl rfl hHeld ?_ (hy:=kG _ 0 0 _ Tryz.underlying3)
      refine on 2 (bm 38 7) fun K hK=>?_
      refine gs Tryz.func35 #[(.int .i64 p_e.f0)] ?_
      with_reducible refine(wQ uD.out).mono ?_
      rintro e Cw ⟨rfl,hb⟩
      refine⟨_,rfl,?_⟩
      replace HW:=ah.mk (HW.out.quiet hb)
      clear hb
      refine hK.out _ _ ⟨HW.out.bxs,(HW.out.underN hbe (Below.refl _ _) (.none _ _))⟩ (fun hHeld=>?_)
      clear hK K
      refine nm ?_
      refine pw 3 ?_
      refine pw 4 ?_
      refine pw 5 ?_
      refine pw 6 ?_
      refine pw 7 ?_
      refine pw 8 ?_
      refine tk 9 (some 22) (bm 38 1023) rfl rfl hHeld ?_ (hy:=kG _ 0 0 _ Tryz.underlying3)
      refine pw 10 ?_
      refine tk 11 (some 24) (bm 38 4095) rfl rfl hHeld ?_ (hy:=kG _ 1 6 _ Tryz.underlying26)
      refine pw 12 ?_
      refine pw 13 ?_
      refine pw 14 ?_
      refine pw 15 ?_
      refine tk 16 (some 29) (bm 38 131071) rfl rfl hHeld ?_ (hy:=DK (.int .i64 p_y.f0) (fun W h=>((fun W h=>fo hre_y h)) W h 0 _ rfl) Tryz.underlying3)
      refine pw 17 ?_
      refine pw 18 ?_
      refine pw 19 ?_
      refine pw 20 ?_
      refine pn 21 ?_
      refine pn 22 ?_
      refine pn 23 ?_
      refine pn 24 ?_
      refine pn 25 ?_
      refine pn 26 ?_
      refine pn 27 ?_
      refine pn 28 ?_
      refine pn 29 ?_
      refine pn 30 ?_
      refine pn 31 ?_
      refine pw 32 ?_
      refine pw 33 ?_
      refine pn 34 ?_
      refine pn 35 ?_
      refine pn 36 ?_
      refine pw 37 ?_
      refine dn ?_
      clear HT_ HW_
      go_wp2_with (fail)
      go_ret
      exact⟨by rw[hI.no (by omega) (by omega) tq (by first|exact .inl (by rw[uD.out];rfl)|exact .inl (by rw[yj.out,Bool.and_false])|exact .inr (.inl ⟨by omega,by rw[tF];omega⟩)|exact .inr (.inr ⟨rfl,by have h_:=tu.out;omega⟩))]<;>rfl,(HW.out.underN hbe (Below.refl _ _) (.none _ _))⟩
     ·skip
      have Jm:=decide_eq_false wS
      cases x0 with
      |true=>
       refine mY HW (fun W=>Below w.heap.size w W) [35] 38 ((HW.out.drew.underN hbe (Below.refl _ _) (.none _ _))) (fun Ef HN hHeld=>?_)
       replace HW:=HN
       clear HN
       refine bK jQ.tab4 jQ.bits4 (fun HT_ HW_=>?_)
       refine pw 0 ?_
       refine tk 1 (some 14) (bm 38 3) rfl rfl hHeld ?_ (hy:=kG _ 0 0 _ Tryz.underlying3)
       refine on 2 (bm 38 7) fun K hK=>?_
       refine gs Tryz.func35 #[(.int .i64 p_e.f0)] ?_
       with_reducible refine(wQ uD.out).mono ?_
       rintro e zx ⟨rfl,hb⟩
       refine⟨_,rfl,?_⟩
       replace HW:=ah.mk (HW.out.quiet hb)
       clear hb
       refine hK.out _ _ ⟨HW.out.bxs,(HW.out.underN hbe (Below.refl _ _) (.none _ _))⟩ (fun hHeld=>?_)
       clear hK K
       refine nm ?_
       refine pw 3 ?_
       refine pw 4 ?_
       refine pw 5 ?_
       refine pw 6 ?_
       refine pw 7 ?_
       refine pw 8 ?_
       refine tk 9 (some 22) (bm 38 1023) rfl rfl hHeld ?_ (hy:=kG _ 0 0 _ Tryz.underlying3)
       refine pw 10 ?_
       refine tk 11 (some 24) (bm 38 4095) rfl rfl hHeld ?_ (hy:=kG _ 1 6 _ Tryz.underlying26)
       refine pw 12 ?_
       refine pw 13 ?_
       refine pw 14 ?_
       refine pw 15 ?_
       refine tk 16 (some 29) (bm 38 131071) rfl rfl hHeld ?_ (hy:=DK (.int .i64 p_y.f0) (fun W h=>((fun W h=>fo hre_y h)) W h 0 _ rfl) Tryz.underlying3)
       refine pw 17 ?_
       refine pw 18 ?_
       refine pw 19 ?_
       refine pw 20 ?_
       refine pw 21 ?_
       refine tk 22 (some 35) (bm 38 8388607) rfl rfl hHeld ?_ (hy:=kG _ 1 0 _ Tryz.underlying4)
       refine pw 23 ?_
       refine pw 24 ?_
       refine pn 25 ?_
       refine pn 26 ?_
       refine pn 27 ?_
       refine pn 28 ?_
       refine pn 29 ?_
       refine pn 30 ?_
       refine pw 31 ?_
       refine pw 32 ?_
       refine pw 33 ?_
       refine tk 34 (some 47) (bm 38 34359738367) rfl rfl hHeld ?_ (hy:=Wp _ 0 0 (sC _ _ _ _ _ _ _ _ _ _ _ _) Tryz.underlying39)
       refine la 35 (bm 38 68719476735) fun K hK=>?_
       refine gs Tryz.func36 #[(.agg (sC _ _ _ _ _ _ _ _ _ _ _ _).toArray)] ?_
       with_reducible refine(F6 q2_e (Kd.C_below C2_e (HW.out.underN hbe (Below.refl _ _) (.none _ _))) q7_e (Kd.C_below C7_e (HW.out.underN hbe (Below.refl _ _) (.none _ _))) (H7 _ wT) yj.out).mono ?_
       rintro e Eg ⟨rfl,hb⟩
       refine⟨_,rfl,?_⟩
       replace HW:=ah.mk (HW.out.quiet hb)
       clear hb
       refine hK.out _ _ ?_
       clear hK K
       refine nm ?_
       refine pw 36 ?_
       refine pw 37 ?_
       refine dn ?_
       clear HT_ HW_
       go_upto_if 50 with(fail)
       cases ts with
       |true=>
        go_wp2_with (fail)
        go_roundg (l6.length-(iq+1).toNat)
        case measure=>omega
        case rel=>exact⟨_,_,rfl,⟨⟨(by omega),(by omega),(by omega),(hI.yes (by omega) (by omega) tq (by rw[uD.out,yj.out];rfl) (by first|exact .inl (by omega)|exact .inr (by rw[tF];omega)) (by first|exact .inl rfl|exact .inr (by have h_:=tu.out;have g_:ah (p_e.f0=wrap64 (wrap64 (2*iq)+1)):=(by assumption);have g2_:=g_.out;omega)))⟩⟩,⟨LW.less HW.out.drop trivial (Mon.top _)⟩⟩
       |false=>
        go_wp2_with (fail)
        go_ret
        exact⟨by rw[hI.no (by omega) (by omega) tq (by first|exact .inl (by rw[uD.out];rfl)|exact .inl (by rw[yj.out,Bool.and_false])|exact .inr (.inl ⟨by omega,by rw[tF];omega⟩)|exact .inr (.inr ⟨rfl,by have h_:=tu.out;omega⟩))]<;>rfl,(HW.out.underN hbe (Below.refl _ _) (.none _ _))⟩
      |false=>
       by_cases c116:p_e.f0=wrap64 ((wrap64 (2*iq))+1)
       ·skip
        have Qn:(p_e.f0==(wrap64 ((wrap64 (2*iq))+1)))=true:=beq_iff_eq.mpr c116
        have aqL:(p_e.f0 != (wrap64 ((wrap64 (2*iq))+1)))=false:=bne_eq_false_iff_eq.mpr c116
        have aPm:=ah.mk c116
        clear c116
        refine mY HW (fun W=>Below w.heap.size w W) [35] 38 ((HW.out.drew.underN hbe (Below.refl _ _) (.none _ _))) (fun zo HN hHeld=>?_)
        replace HW:=HN
        clear HN
        refine bK jQ.tab4 jQ.bits4 (fun HT_ HW_=>?_)
        refine pw 0 ?_
        refine tk 1 (some 14) (bm 38 3) rfl rfl hHeld ?_ (hy:=kG _ 0 0 _ Tryz.underlying3)
        refine on 2 (bm 38 7) fun K hK=>?_
        refine gs Tryz.func35 #[(.int .i64 p_e.f0)] ?_
        with_reducible refine(wQ uD.out).mono ?_
        rintro e vP ⟨rfl,hb⟩
        refine⟨_,rfl,?_⟩
        replace HW:=ah.mk (HW.out.quiet hb)
        clear hb
        refine hK.out _ _ ⟨HW.out.bxs,(HW.out.underN hbe (Below.refl _ _) (.none _ _))⟩ (fun hHeld=>?_)
        clear hK K
        refine nm ?_
        refine pw 3 ?_
        refine pw 4 ?_
        refine pw 5 ?_
        refine pw 6 ?_
        refine pw 7 ?_
        refine pw 8 ?_
        refine tk 9 (some 22) (bm 38 1023) rfl rfl hHeld ?_ (hy:=kG _ 0 0 _ Tryz.underlying3)
        refine pw 10 ?_
        refine tk 11 (some 24) (bm 38 4095) rfl rfl hHeld ?_ (hy:=kG _ 1 6 _ Tryz.underlying26)
        refine pw 12 ?_
        refine pw 13 ?_
        refine pw 14 ?_
        refine pw 15 ?_
        refine tk 16 (some 29) (bm 38 131071) rfl rfl hHeld ?_ (hy:=DK (.int .i64 p_y.f0) (fun W h=>((fun W h=>fo hre_y h)) W h 0 _ rfl) Tryz.underlying3)
        refine pw 17 ?_
        refine pw 18 ?_
        refine pw 19 ?_
        refine pw 20 ?_
        refine pw 21 ?_
        refine tk 22 (some 35) (bm 38 8388607) rfl rfl hHeld ?_ (hy:=kG _ 1 0 _ Tryz.underlying4)
        refine pw 23 ?_
        refine pw 24 ?_
        refine pw 25 ?_
        refine tk 26 (some 39) (bm 38 134217727) rfl rfl hHeld ?_ (hy:=kG _ 0 0 _ Tryz.underlying3)
        refine pw 27 ?_
        refine pw 28 ?_
        refine pw 29 ?_
        refine pw 30 ?_
        refine pw 31 ?_
        refine pw 32 ?_
        refine pw 33 ?_
        refine tk 34 (some 47) (bm 38 34359738367) rfl rfl hHeld ?_ (hy:=Wp _ 0 0 (sC _ _ _ _ _ _ _ _ _ _ _ _) Tryz.underlying39)
        refine la 35 (bm 38 68719476735) fun K hK=>?_
        refine gs Tryz.func36 #[(.agg (sC _ _ _ _ _ _ _ _ _ _ _ _).toArray)] ?_
        with_reducible refine(F6 q2_e (Kd.C_below C2_e (HW.out.underN hbe (Below.refl _ _) (.none _ _))) q7_e (Kd.C_below C7_e (HW.out.underN hbe (Below.refl _ _) (.none _ _))) (H7 _ wT) yj.out).mono ?_
        rintro e uZ ⟨rfl,hb⟩
        refine⟨_,rfl,?_⟩
        replace HW:=ah.mk (HW.out.quiet hb)
        clear hb
        refine hK.out _ _ ?_
        clear hK K
        refine nm ?_
        refine pw 36 ?_
        refine pw 37 ?_
        refine dn ?_
        clear HT_ HW_
        go_upto_if 50 with(fail)
        cases ts with
        |true=>
         go_wp2_with (fail)
         go_roundg (l6.length-(iq+1).toNat)
         case measure=>omega
         case rel=>exact⟨_,_,rfl,⟨⟨(by omega),(by omega),(by omega),(hI.yes (by omega) (by omega) tq (by rw[uD.out,yj.out];rfl) (by first|exact .inl (by omega)|exact .inr (by rw[tF];omega)) (by first|exact .inl rfl|exact .inr (by have h_:=tu.out;have g_:ah (p_e.f0=wrap64 (wrap64 (2*iq)+1)):=(by assumption);have g2_:=g_.out;omega)))⟩⟩,⟨LW.less HW.out.drop trivial (Mon.top _)⟩⟩
        |false=>
         go_wp2_with (fail)
         go_ret
         exact⟨by rw[hI.no (by omega) (by omega) tq (by first|exact .inl (by rw[uD.out];rfl)|exact .inl (by rw[yj.out,Bool.and_false])|exact .inr (.inl ⟨by omega,by rw[tF];omega⟩)|exact .inr (.inr ⟨rfl,by have h_:=tu.out;omega⟩))]<;>rfl,(HW.out.underN hbe (Below.refl _ _) (.none _ _))⟩
       ·skip
        have Qn:(p_e.f0==(wrap64 ((wrap64 (2*iq))+1)))=false:=beq_eq_false_iff_ne.mpr c116
        have aqL:(p_e.f0 != (wrap64 ((wrap64 (2*iq))+1)))=true:=bne_iff_ne.mpr c116
        refine mY HW (fun W=>Below w.heap.size w W) [35] 38 ((HW.out.drew.underN hbe (Below.refl _ _) (.none _ _))) (fun zu HN hHeld=>?_)
        replace HW:=HN
        clear HN
        refine bK jQ.tab4 jQ.bits4 (fun HT_ HW_=>?_)
        refine pw 0 ?_
        refine tk 1 (some 14) (bm 38 3) rfl rfl hHeld ?_ (hy:=kG _ 0 0 _ Tryz.underlying3)
        refine on 2 (bm 38 7) fun K hK=>?_
        refine gs Tryz.func35 #[(.int .i64 p_e.f0)] ?_
        with_reducible refine(wQ uD.out).mono ?_
        rintro e zw ⟨rfl,hb⟩
        refine⟨_,rfl,?_⟩
        replace HW:=ah.mk (HW.out.quiet hb)
        clear hb
        refine hK.out _ _ ⟨HW.out.bxs,(HW.out.underN hbe (Below.refl _ _) (.none _ _))⟩ (fun hHeld=>?_)
        clear hK K
        refine nm ?_
        refine pw 3 ?_
        refine pw 4 ?_
        refine pw 5 ?_
        refine pw 6 ?_
        refine pw 7 ?_
        refine pw 8 ?_
        refine tk 9 (some 22) (bm 38 1023) rfl rfl hHeld ?_ (hy:=kG _ 0 0 _ Tryz.underlying3)
        refine pw 10 ?_
        refine tk 11 (some 24) (bm 38 4095) rfl rfl hHeld ?_ (hy:=kG _ 1 6 _ Tryz.underlying26)
        refine pw 12 ?_
        refine pw 13 ?_
        refine pw 14 ?_
        refine pw 15 ?_
        refine tk 16 (some 29) (bm 38 131071) rfl rfl hHeld ?_ (hy:=DK (.int .i64 p_y.f0) (fun W h=>((fun W h=>fo hre_y h)) W h 0 _ rfl) Tryz.underlying3)
        refine pw 17 ?_
        refine pw 18 ?_
        refine pw 19 ?_
        refine pw 20 ?_
        refine pw 21 ?_
        refine tk 22 (some 35) (bm 38 8388607) rfl rfl hHeld ?_ (hy:=kG _ 1 0 _ Tryz.underlying4)
        refine pw 23 ?_
        refine pw 24 ?_
        refine pw 25 ?_
        refine tk 26 (some 39) (bm 38 134217727) rfl rfl hHeld ?_ (hy:=kG _ 0 0 _ Tryz.underlying3)
        refine pw 27 ?_
        refine pw 28 ?_
        refine pw 29 ?_
        refine pw 30 ?_
        refine pw 31 ?_
        refine pw 32 ?_
        refine pw 33 ?_
        refine pn 34 ?_
        refine pn 35 ?_
        refine pn 36 ?_
        refine pw 37 ?_
        refine dn ?_
        clear HT_ HW_
        go_wp2_with (fail)
        go_ret
        exact⟨by rw[hI.no (by omega) (by omega) tq (by first|exact .inl (by rw[uD.out];rfl)|exact .inl (by rw[yj.out,Bool.and_false])|exact .inr (.inl ⟨by omega,by rw[tF];omega⟩)|exact .inr (.inr ⟨rfl,by have h_:=tu.out;omega⟩))]<;>rfl,(HW.out.underN hbe (Below.refl _ _) (.none _ _))⟩
    ·skip
     have Jr:=decide_eq_false c107
     cases x0 with
     |true=>
      refine mY HW (fun W=>Below w.heap.size w W) [35] 38 ((HW.out.drew.underN hbe (Below.refl _ _) (.none _ _))) (fun Eh HN hHeld=>?_)
      replace HW:=HN
      clear HN
      refine bK jQ.tab4 jQ.bits4 (fun HT_ HW_=>?_)
      refine pw 0 ?_
      refine tk 1 (some 14) (bm 38 3) rfl rfl hHeld ?_ (hy:=kG _ 0 0 _ Tryz.underlying3)
      refine on 2 (bm 38 7) fun K hK=>?_
      refine gs Tryz.func35 #[(.int .i64 p_e.f0)] ?_
      with_reducible refine(wQ uD.out).mono ?_
      rintro e GJ ⟨rfl,hb⟩
      refine⟨_,rfl,?_⟩
      replace HW:=ah.mk (HW.out.quiet hb)
      clear hb
      refine hK.out _ _ ⟨HW.out.bxs,(HW.out.underN hbe (Below.refl _ _) (.none _ _))⟩ (fun hHeld=>?_)
      clear hK K
      refine nm ?_
      refine pw 3 ?_
      refine pw 4 ?_
      refine pw 5 ?_
      refine pw 6 ?_
      refine pw 7 ?_
      refine pn 8 ?_
      refine pn 9 ?_
      refine pn 10 ?_
      refine pn 11 ?_
      refine pn 12 ?_
      refine pn 13 ?_
      refine pn 14 ?_
      refine pn 15 ?_
      refine pn 16 ?_
      refine pn 17 ?_
      refine pw 18 ?_
      refine pw 19 ?_
      refine pw 20 ?_
      refine pw 21 ?_
      refine tk 22 (some 35) (bm 38 8388607) rfl rfl hHeld ?_ (hy:=kG _ 1 0 _ Tryz.underlying4)
      refine pw 23 ?_
      refine pw 24 ?_
      refine pn 25 ?_
      refine pn 26 ?_
      refine pn 27 ?_
      refine pn 28 ?_
      refine pn 29 ?_
      refine pn 30 ?_
      refine pw 31 ?_
      refine pw 32 ?_
      refine pw 33 ?_
      refine tk 34 (some 47) (bm 38 34359738367) rfl rfl hHeld ?_ (hy:=Wp _ 0 0 (sC _ _ _ _ _ _ _ _ _ _ _ _) Tryz.underlying39)
      refine la 35 (bm 38 68719476735) fun K hK=>?_
      refine gs Tryz.func36 #[(.agg (sC _ _ _ _ _ _ _ _ _ _ _ _).toArray)] ?_
      with_reducible refine(F6 q2_e (Kd.C_below C2_e (HW.out.underN hbe (Below.refl _ _) (.none _ _))) q7_e (Kd.C_below C7_e (HW.out.underN hbe (Below.refl _ _) (.none _ _))) (H7 _ wT) yj.out).mono ?_
      rintro e GK ⟨rfl,hb⟩
      refine⟨_,rfl,?_⟩
      replace HW:=ah.mk (HW.out.quiet hb)
      clear hb
      refine hK.out _ _ ?_
      clear hK K
      refine nm ?_
      refine pw 36 ?_
      refine pw 37 ?_
      refine dn ?_
      clear HT_ HW_
      go_upto_if 50 with(fail)
      cases ts with
      |true=>
       go_wp2_with (fail)
       go_roundg (l6.length-(iq+1).toNat)
       case measure=>omega
       case rel=>exact⟨_,_,rfl,⟨⟨(by omega),(by omega),(by omega),(hI.yes (by omega) (by omega) tq (by rw[uD.out,yj.out];rfl) (by first|exact .inl (by omega)|exact .inr (by rw[tF];omega)) (by first|exact .inl rfl|exact .inr (by have h_:=tu.out;have g_:ah (p_e.f0=wrap64 (wrap64 (2*iq)+1)):=(by assumption);have g2_:=g_.out;omega)))⟩⟩,⟨LW.less HW.out.drop trivial (Mon.top _)⟩⟩
      |false=>
       go_wp2_with (fail)
       go_ret
       exact⟨by rw[hI.no (by omega) (by omega) tq (by first|exact .inl (by rw[uD.out];rfl)|exact .inl (by rw[yj.out,Bool.and_false])|exact .inr (.inl ⟨by omega,by rw[tF];omega⟩)|exact .inr (.inr ⟨rfl,by have h_:=tu.out;omega⟩))]<;>rfl,(HW.out.underN hbe (Below.refl _ _) (.none _ _))⟩
     |false=>
      by_cases vo:p_e.f0=wrap64 ((wrap64 (2*iq))+1)
      ·skip
       have GZ:(p_e.f0==(wrap64 ((wrap64 (2*iq))+1)))=true:=beq_iff_eq.mpr vo
       have a2G:(p_e.f0 != (wrap64 ((wrap64 (2*iq))+1)))=false:=bne_eq_false_iff_eq.mpr vo
       have aqa:=ah.mk vo
       clear vo
       refine mY HW (fun W=>Below w.heap.size w W) [35] 38 ((HW.out.drew.underN hbe (Below.refl _ _) (.none _ _))) (fun SN HN hHeld=>?_)
       replace HW:=HN
       clear HN
       refine bK jQ.tab4 jQ.bits4 (fun HT_ HW_=>?_)
       refine pw 0 ?_
       refine tk 1 (some 14) (bm 38 3) rfl rfl hHeld ?_ (hy:=kG _ 0 0 _ Tryz.underlying3)
       refine on 2 (bm 38 7) fun K hK=>?_
       refine gs Tryz.func35 #[(.int .i64 p_e.f0)] ?_
       with_reducible refine(wQ uD.out).mono ?_
       rintro e a2S ⟨rfl,hb⟩
       refine⟨_,rfl,?_⟩
       replace HW:=ah.mk (HW.out.quiet hb)
       clear hb
       refine hK.out _ _ ⟨HW.out.bxs,(HW.out.underN hbe (Below.refl _ _) (.none _ _))⟩ (fun hHeld=>?_)
       clear hK K
       refine nm ?_
       refine pw 3 ?_
       refine pw 4 ?_
       refine pw 5 ?_
       refine pw 6 ?_
       refine pw 7 ?_
       refine pn 8 ?_
       refine pn 9 ?_
       refine pn 10 ?_
       refine pn 11 ?_
       refine pn 12 ?_
       refine pn 13 ?_
       refine pn 14 ?_
       refine pn 15 ?_
       refine pn 16 ?_
       refine pn 17 ?_
       refine pw 18 ?_
       refine pw 19 ?_
       refine pw 20 ?_
       refine pw 21 ?_
       refine tk 22 (some 35) (bm 38 8388607) rfl rfl hHeld ?_ (hy:=kG _ 1 0 _ Tryz.underlying4)
       refine pw 23 ?_
       refine pw 24 ?_
       refine pw 25 ?_
       refine tk 26 (some 39) (bm 38 134217727) rfl rfl hHeld ?_ (hy:=kG _ 0 0 _ Tryz.underlying3)
       refine pw 27 ?_
       refine pw 28 ?_
       refine pw 29 ?_
       refine pw 30 ?_
       refine pw 31 ?_
       refine pw 32 ?_
       refine pw 33 ?_
       refine tk 34 (some 47) (bm 38 34359738367) rfl rfl hHeld ?_ (hy:=Wp _ 0 0 (sC _ _ _ _ _ _ _ _ _ _ _ _) Tryz.underlying39)
       refine la 35 (bm 38 68719476735) fun K hK=>?_
       refine gs Tryz.func36 #[(.agg (sC _ _ _ _ _ _ _ _ _ _ _ _).toArray)] ?_
       with_reducible refine(F6 q2_e (Kd.C_below C2_e (HW.out.underN hbe (Below.refl _ _) (.none _ _))) q7_e (Kd.C_below C7_e (HW.out.underN hbe (Below.refl _ _) (.none _ _))) (H7 _ wT) yj.out).mono ?_
       rintro e Qh ⟨rfl,hb⟩
       refine⟨_,rfl,?_⟩
       replace HW:=ah.mk (HW.out.quiet hb)
       clear hb
       refine hK.out _ _ ?_
       clear hK K
       refine nm ?_
       refine pw 36 ?_
       refine pw 37 ?_
       refine dn ?_
       clear HT_ HW_
       go_upto_if 50 with(fail)
       cases ts with
       |true=>
        go_wp2_with (fail)
        go_roundg (l6.length-(iq+1).toNat)
        case measure=>omega
        case rel=>exact⟨_,_,rfl,⟨⟨(by omega),(by omega),(by omega),(hI.yes (by omega) (by omega) tq (by rw[uD.out,yj.out];rfl) (by first|exact .inl (by omega)|exact .inr (by rw[tF];omega)) (by first|exact .inl rfl|exact .inr (by have h_:=tu.out;have g_:ah (p_e.f0=wrap64 (wrap64 (2*iq)+1)):=(by assumption);have g2_:=g_.out;omega)))⟩⟩,⟨LW.less HW.out.drop trivial (Mon.top _)⟩⟩
       |false=>
        go_wp2_with (fail)
        go_ret
        exact⟨by rw[hI.no (by omega) (by omega) tq (by first|exact .inl (by rw[uD.out];rfl)|exact .inl (by rw[yj.out,Bool.and_false])|exact .inr (.inl ⟨by omega,by rw[tF];omega⟩)|exact .inr (.inr ⟨rfl,by have h_:=tu.out;omega⟩))]<;>rfl,(HW.out.underN hbe (Below.refl _ _) (.none _ _))⟩
      ·skip
       have GZ:(p_e.f0==(wrap64 ((wrap64 (2*iq))+1)))=false:=beq_eq_false_iff_ne.mpr vo
       have a2G:(p_e.f0 != (wrap64 ((wrap64 (2*iq))+1)))=true:=bne_iff_ne.mpr vo
       refine mY HW (fun W=>Below w.heap.size w W) [35] 38 ((HW.out.drew.underN hbe (Below.refl _ _) (.none _ _))) (fun a2H HN hHeld=>?_)
       replace HW:=HN
       clear HN
       refine bK jQ.tab4 jQ.bits4 (fun HT_ HW_=>?_)
       refine pw 0 ?_
       refine tk 1 (some 14) (bm 38 3) rfl rfl hHeld ?_ (hy:=kG _ 0 0 _ Tryz.underlying3)
       refine on 2 (bm 38 7) fun K hK=>?_
       refine gs Tryz.func35 #[(.int .i64 p_e.f0)] ?_
       with_reducible refine(wQ uD.out).mono ?_
       rintro e a2I ⟨rfl,hb⟩
       refine⟨_,rfl,?_⟩
       replace HW:=ah.mk (HW.out.quiet hb)
       clear hb
       refine hK.out _ _ ⟨HW.out.bxs,(HW.out.underN hbe (Below.refl _ _) (.none _ _))⟩ (fun hHeld=>?_)
       clear hK K
       refine nm ?_
       refine pw 3 ?_
       refine pw 4 ?_
       refine pw 5 ?_
       refine pw 6 ?_
       refine pw 7 ?_
       refine pn 8 ?_
       refine pn 9 ?_
       refine pn 10 ?_
       refine pn 11 ?_
       refine pn 12 ?_
       refine pn 13 ?_
       refine pn 14 ?_
       refine pn 15 ?_
       refine pn 16 ?_
       refine pn 17 ?_
       refine pw 18 ?_
       refine pw 19 ?_
       refine pw 20 ?_
       refine pw 21 ?_
       refine tk 22 (some 35) (bm 38 8388607) rfl rfl hHeld ?_ (hy:=kG _ 1 0 _ Tryz.underlying4)
       refine pw 23 ?_
       refine pw 24 ?_
       refine pw 25 ?_
       refine tk 26 (some 39) (bm 38 134217727) rfl rfl hHeld ?_ (hy:=kG _ 0 0 _ Tryz.underlying3)
       refine pw 27 ?_
       refine pw 28 ?_
       refine pw 29 ?_
       refine pw 30 ?_
       refine pw 31 ?_
       refine pw 32 ?_
       refine pw 33 ?_
       refine pn 34 ?_
       refine pn 35 ?_
       refine pn 36 ?_
       refine pw 37 ?_
       refine dn ?_
       clear HT_ HW_
       go_wp2_with (fail)
       go_ret
       exact⟨by rw[hI.no (by omega) (by omega) tq (by first|exact .inl (by rw[uD.out];rfl)|exact .inl (by rw[yj.out,Bool.and_false])|exact .inr (.inl ⟨by omega,by rw[tF];omega⟩)|exact .inr (.inr ⟨rfl,by have h_:=tu.out;omega⟩))]<;>rfl,(HW.out.underN hbe (Below.refl _ _) (.none _ _))⟩
   |false=>
    refine mY HW (fun W=>Below w.heap.size w W) [35] 38 ((HW.out.drew.underN hbe (Below.refl _ _) (.none _ _))) (fun aaN HN hHeld=>?_)
    replace HW:=HN
    clear HN
    refine bK jQ.tab4 jQ.bits4 (fun HT_ HW_=>?_)
    refine pw 0 ?_
    refine tk 1 (some 14) (bm 38 3) rfl rfl hHeld ?_ (hy:=kG _ 0 0 _ Tryz.underlying3)
    refine on 2 (bm 38 7) fun K hK=>?_
    refine gs Tryz.func35 #[(.int .i64 p_e.f0)] ?_
    with_reducible refine(wQ uD.out).mono ?_
    rintro e a2J ⟨rfl,hb⟩
    refine⟨_,rfl,?_⟩
    replace HW:=ah.mk (HW.out.quiet hb)
    clear hb
    refine hK.out _ _ ⟨HW.out.bxs,(HW.out.underN hbe (Below.refl _ _) (.none _ _))⟩ (fun hHeld=>?_)
    clear hK K
    refine nm ?_
    refine pw 3 ?_
    refine pw 4 ?_
    refine pn 5 ?_
    refine pn 6 ?_
    refine pn 7 ?_
    refine pn 8 ?_
    refine pn 9 ?_
    refine pn 10 ?_
    refine pn 11 ?_
    refine pn 12 ?_
    refine pn 13 ?_
    refine pn 14 ?_
    refine pn 15 ?_
    refine pn 16 ?_
    refine pn 17 ?_
    refine pn 18 ?_
    refine pw 19 ?_
    refine pw 20 ?_
    refine pn 21 ?_
    refine pn 22 ?_
    refine pn 23 ?_
    refine pn 24 ?_
    refine pn 25 ?_
    refine pn 26 ?_
    refine pn 27 ?_
    refine pn 28 ?_
    refine pn 29 ?_
    refine pn 30 ?_
    refine pn 31 ?_
    refine pw 32 ?_
    refine pw 33 ?_
    refine pn 34 ?_
    refine pn 35 ?_
    refine pn 36 ?_
    refine pw 37 ?_
    refine dn ?_
    clear HT_ HW_
    go_wp2_with (fail)
    go_ret
    exact⟨by rw[hI.no (by omega) (by omega) tq (by first|exact .inl (by rw[uD.out];rfl)|exact .inl (by rw[yj.out,Bool.and_false])|exact .inr (.inl ⟨by omega,by rw[tF];omega⟩)|exact .inr (.inr ⟨rfl,by have h_:=tu.out;omega⟩))]<;>rfl,(HW.out.underN hbe (Below.refl _ _) (.none _ _))⟩
  ·skip
   have WO:=decide_eq_false LM
   go_upto_region 7 with(fail)
   have hFd_:=aag (hI.done (by omega)) H6.out LH.out hfl.out haf.out
   by_cases a2N:(l9.length:Int)≤60
   ·skip
    have a2O:=decide_eq_true a2N
    cases af with
    |true=>
     by_cases c141:(x5.size:Int)≤600
     ·skip
      have a2T:=decide_eq_true c141
      cases tk1 with
      |true=>
       cases tk3 with
       |true=>
        go_wp2_with (first|((with_reducible refine gd 53 rfl ?_);refine lls HW 0 9 _ Tryz.underlying29 ?_)|((with_reducible refine gd 58 rfl ?_);refine ay (by rfl) ?_;dsimp only;refine lls HW 0 9 _ Tryz.underlying29 ?_)|(go_at_call 37;with_reducible refine(Bu (hE.below (HW.out.underN hbe (Below.refl _ _) (.none _ _))).r9 (by omega) haf.out).mono ?_;rintro e aaC ⟨rfl,hb⟩;replace HW:=ah.mk (HW.out.quiet hb);clear hb)|((with_reducible refine gd 64 rfl ?_);refine ay (by rfl) ?_;dsimp only;refine lls HW 0 5 _ Tryz.underlying9 ?_)|((with_reducible refine gd 70 rfl ?_);refine ay (by rfl) ?_;dsimp only;refine qi HW 0 1 (tC _ _) Tryz.underlying25 ?_)|(go_at_call 40;with_reducible refine(Bt (hE.below (HW.out.underN hbe (Below.refl _ _) (.none _ _))).r1 nP H6.out).mono ?_;rintro e a2P ⟨rfl,hb⟩;replace HW:=ah.mk (HW.out.quiet hb);clear hb)|((with_reducible refine gd 75 rfl ?_);refine ay (by rfl) ?_;dsimp only;refine qi HW 0 3 (tC _ _) Tryz.underlying25 ?_)|(go_at_call 40;with_reducible refine(Bt (hE.below (HW.out.underN hbe (Below.refl _ _) (.none _ _))).r3 sZ LH.out).mono ?_;rintro e Yj ⟨rfl,hb⟩;replace HW:=ah.mk (HW.out.quiet hb);clear hb)|((with_reducible refine gd 80 rfl ?_);refine ay (by rfl) ?_;dsimp only;refine qi HW 0 7 (oC _ _) Tryz.underlying28 ?_)|(go_at_call 41;with_reducible refine(a2y hfl.out).mono ?_;rintro e ai8 ⟨rfl,hb⟩;replace HW:=ah.mk (HW.out.quiet hb);clear hb))
        go_ret
        exact⟨by first|rfl|(rw[hFd_];first|rfl|(simp;done)|(simp[*];done)|(simp[*];omega)),(HW.out.underN hbe (Below.refl _ _) (.none _ _))⟩
       |false=>
        go_wp2_with (first|((with_reducible refine gd 53 rfl ?_);refine lls HW 0 9 _ Tryz.underlying29 ?_)|((with_reducible refine gd 58 rfl ?_);refine ay (by rfl) ?_;dsimp only;refine lls HW 0 9 _ Tryz.underlying29 ?_)|(go_at_call 37;with_reducible refine(Bu (hE.below (HW.out.underN hbe (Below.refl _ _) (.none _ _))).r9 (by omega) haf.out).mono ?_;rintro e aaD ⟨rfl,hb⟩;replace HW:=ah.mk (HW.out.quiet hb);clear hb)|((with_reducible refine gd 64 rfl ?_);refine ay (by rfl) ?_;dsimp only;refine lls HW 0 5 _ Tryz.underlying9 ?_)|((with_reducible refine gd 70 rfl ?_);refine ay (by rfl) ?_;dsimp only;refine qi HW 0 1 (tC _ _) Tryz.underlying25 ?_)|(go_at_call 40;with_reducible refine(Bt (hE.below (HW.out.underN hbe (Below.refl _ _) (.none _ _))).r1 nP H6.out).mono ?_;rintro e aaO ⟨rfl,hb⟩;replace HW:=ah.mk (HW.out.quiet hb);clear hb)|((with_reducible refine gd 75 rfl ?_);refine ay (by rfl) ?_;dsimp only;refine qi HW 0 3 (tC _ _) Tryz.underlying25 ?_)|(go_at_call 40;with_reducible refine(Bt (hE.below (HW.out.underN hbe (Below.refl _ _) (.none _ _))).r3 sZ LH.out).mono ?_;rintro e aaE ⟨rfl,hb⟩;replace HW:=ah.mk (HW.out.quiet hb);clear hb))
        go_ret
        exact⟨by first|rfl|(rw[hFd_];first|rfl|(simp;done)|(simp[*];done)|(simp[*];omega)),(HW.out.underN hbe (Below.refl _ _) (.none _ _))⟩
      |false=>
       go_wp2_with (first|((with_reducible refine gd 53 rfl ?_);refine lls HW 0 9 _ Tryz.underlying29 ?_)|((with_reducible refine gd 58 rfl ?_);refine ay (by rfl) ?_;dsimp only;refine lls HW 0 9 _ Tryz.underlying29 ?_)|(go_at_call 37;with_reducible refine(Bu (hE.below (HW.out.underN hbe (Below.refl _ _) (.none _ _))).r9 (by omega) haf.out).mono ?_;rintro e aGy ⟨rfl,hb⟩;replace HW:=ah.mk (HW.out.quiet hb);clear hb)|((with_reducible refine gd 64 rfl ?_);refine ay (by rfl) ?_;dsimp only;refine lls HW 0 5 _ Tryz.underlying9 ?_)|((with_reducible refine gd 70 rfl ?_);refine ay (by rfl) ?_;dsimp only;refine qi HW 0 1 (tC _ _) Tryz.underlying25 ?_)|(go_at_call 40;with_reducible refine(Bt (hE.below (HW.out.underN hbe (Below.refl _ _) (.none _ _))).r1 nP H6.out).mono ?_;rintro e aqh ⟨rfl,hb⟩;replace HW:=ah.mk (HW.out.quiet hb);clear hb))
       go_ret
       exact⟨by first|rfl|(rw[hFd_];first|rfl|(simp;done)|(simp[*];done)|(simp[*];omega)),(HW.out.underN hbe (Below.refl _ _) (.none _ _))⟩
     ·skip
      have a2T:=decide_eq_false c141
      go_wp2_with (first|((with_reducible refine gd 53 rfl ?_);refine lls HW 0 9 _ Tryz.underlying29 ?_)|((with_reducible refine gd 58 rfl ?_);refine ay (by rfl) ?_;dsimp only;refine lls HW 0 9 _ Tryz.underlying29 ?_)|(go_at_call 37;with_reducible refine(Bu (hE.below (HW.out.underN hbe (Below.refl _ _) (.none _ _))).r9 (by omega) haf.out).mono ?_;rintro e aGe ⟨rfl,hb⟩;replace HW:=ah.mk (HW.out.quiet hb);clear hb)|((with_reducible refine gd 64 rfl ?_);refine ay (by rfl) ?_;dsimp only;refine lls HW 0 5 _ Tryz.underlying9 ?_))
      go_ret
      exact⟨by first|rfl|(rw[hFd_];first|rfl|(simp;done)|(simp[*];done)|(simp[*];omega)),(HW.out.underN hbe (Below.refl _ _) (.none _ _))⟩
    |false=>
     go_wp2_with (first|((with_reducible refine gd 53 rfl ?_);refine lls HW 0 9 _ Tryz.underlying29 ?_)|((with_reducible refine gd 58 rfl ?_);refine ay (by rfl) ?_;dsimp only;refine lls HW 0 9 _ Tryz.underlying29 ?_)|(go_at_call 37;with_reducible refine(Bu (hE.below (HW.out.underN hbe (Below.refl _ _) (.none _ _))).r9 (by omega) haf.out).mono ?_;rintro e aqi ⟨rfl,hb⟩;replace HW:=ah.mk (HW.out.quiet hb);clear hb))
     go_ret
     exact⟨by first|rfl|(rw[hFd_];first|rfl|(simp;done)|(simp[*];done)|(simp[*];omega)),(HW.out.underN hbe (Below.refl _ _) (.none _ _))⟩
   ·skip
    have a2O:=decide_eq_false a2N
    go_wp2_with (first|((with_reducible refine gd 53 rfl ?_);refine lls HW 0 9 _ Tryz.underlying29 ?_))
    go_ret
    exact⟨by first|rfl|(rw[hFd_];first|rfl|(simp;done)|(simp[*];done)|(simp[*];omega)),(HW.out.underN hbe (Below.refl _ _) (.none _ _))⟩
theorem Js{w:World}{v1 v3 v6 v9 u1 u3 u6 u9:Value}{l1 l3 k1 k3:List bf}{l6 k6:List uF}{l9 k9:List jS}{x0 x10 y0 oH ex ey:Bool}{x2 x4 x7 x8 y2 y4 y7 y8:Int}{x5 y5 su sd:ByteArray}(hE:I6 w v1 l1 v3 l3 v6 l6 v9 l9)(hs:SmE l1 l3 x5 l6 l9)(hx:vG x0 l1 x2 l3 x4 x5 l6 x7 x8 l9=ex)(hF:I6 w u1 k1 u3 k3 u6 k6 u9 k9)(hs2:SmE k1 k3 y5 k6 k9)(hy:vG y0 k1 y2 k3 y4 y5 k6 y7 y8 k9=ey){r:Bool}(hr:(ex&&(ey&&(!x0&&(y0&&(decide ((su.size:Int)≤800)&&decide ((sd.size:Int)≤800))))))=r):Calls Tryz.prog 42 #[.agg (wC x0 v1 x2 v3 x4 x5 v6 x7 x8 v9 x10 y0 u1 y2 u3 y4 y5 u6 y7 y8 u9 oH su sd).toArray] w fun e w'=>e= .returned (.bool r)∧Below w.heap.size w w':=by
 subst hr
 obtain⟨b,hbe⟩:∃b,b=w.heap.size:=⟨_,rfl⟩
 have hw:TW b rE w:=.none _ _
 obtain⟨A1,c1,e_,_⟩:=hE.r1
 subst e_
 obtain⟨A3,c3,e_,_⟩:=hE.r3
 subst e_
 obtain⟨A6,c6,e_,_⟩:=hE.r6
 subst e_
 obtain⟨A9,c9,e_,_⟩:=hE.r9
 subst e_
 obtain⟨B1,d1,e_,_⟩:=hF.r1
 subst e_
 obtain⟨B3,d3,e_,_⟩:=hF.r3
 subst e_
 obtain⟨B6,d6,e_,_⟩:=hF.r6
 subst e_
 obtain⟨B9,d9,e_,_⟩:=hF.r9
 subst e_
 have hX:=ah.mk hx
 have hY:=ah.mk hy
 clear hx hy
 have HW:ah (LW b NX rE w [] (fun _ _=>True) rE w):=⟨LW.start hw trivial (Mon.top _)⟩
 clear hw
 go_enter Tryz.func42,Tryz.ntmps42
 go_upto_region 1 with(first|((with_reducible refine gd 1 rfl ?_);refine lbx (N:=1) (t:=47) HW (wC x0 (.slice A1 l1.length c1) x2 (.slice A3 l3.length c3) x4 x5 (.slice A6 l6.length c6) x7 x8 (.slice A9 l9.length c9) x10 y0 (.slice B1 k1.length d1) y2 (.slice B3 k3.length d3) y4 y5 (.slice B6 k6.length d6) y7 y8 (.slice B9 k9.length d9) oH su sd) ?_;clear HW;intro g1 pJ HW))
 cases ex with
 |true=>
  cases ey with
  |true=>
   cases x0 with
   |true=>
    go_wp2_with (first|((with_reducible refine gd 4 rfl ?_);refine lE HW 0 0 ?_)|((with_reducible refine gq 14 rfl ?_);refine gl (some 5) Tryz.func14 #[(.agg (eC _ _ _ _ _ _ _ _ _ _ _).toArray)] ?_;with_reducible refine(mG (hE.below (HW.out.underN hbe (Below.refl _ _) (.none _ _))) hs hX.out).mono ?_;rintro e Cw ⟨rfl,hb⟩;refine⟨_,rfl,?_⟩;replace HW:=ah.mk (HW.out.quiet hb);clear hb)|((with_reducible refine gd 8 rfl ?_);refine ay (by rfl) ?_;dsimp only;refine qi HW 0 11 (eC _ _ _ _ _ _ _ _ _ _ _) Tryz.underlying31 ?_)|(go_at_call 14;with_reducible refine(mG (hF.below (HW.out.underN hbe (Below.refl _ _) (.none _ _))) hs2 hY.out).mono ?_;rintro e GU ⟨rfl,hb⟩;replace HW:=ah.mk (HW.out.quiet hb);clear hb)|((with_reducible refine gd 14 rfl ?_);refine ay (by rfl) ?_;dsimp only;refine lls HW 0 0 _ Tryz.underlying4 ?_))
    go_ret
    exact⟨by first|rfl|(simp;done)|(simp[*];done),(HW.out.underN hbe (Below.refl _ _) (.none _ _))⟩
   |false=>
    cases y0 with
    |true=>
     by_cases c117:(su.size:Int)≤800
     ·skip
      have WK:=decide_eq_true c117
      go_wp2_with (first|((with_reducible refine gd 4 rfl ?_);refine lE HW 0 0 ?_)|((with_reducible refine gq 14 rfl ?_);refine gl (some 5) Tryz.func14 #[(.agg (eC _ _ _ _ _ _ _ _ _ _ _).toArray)] ?_;with_reducible refine(mG (hE.below (HW.out.underN hbe (Below.refl _ _) (.none _ _))) hs hX.out).mono ?_;rintro e vP ⟨rfl,hb⟩;refine⟨_,rfl,?_⟩;replace HW:=ah.mk (HW.out.quiet hb);clear hb)|((with_reducible refine gd 8 rfl ?_);refine ay (by rfl) ?_;dsimp only;refine qi HW 0 11 (eC _ _ _ _ _ _ _ _ _ _ _) Tryz.underlying31 ?_)|(go_at_call 14;with_reducible refine(mG (hF.below (HW.out.underN hbe (Below.refl _ _) (.none _ _))) hs2 hY.out).mono ?_;rintro e uZ ⟨rfl,hb⟩;replace HW:=ah.mk (HW.out.quiet hb);clear hb)|((with_reducible refine gd 14 rfl ?_);refine ay (by rfl) ?_;dsimp only;refine lls HW 0 0 _ Tryz.underlying4 ?_)|((with_reducible refine gd 20 rfl ?_);refine ay (by rfl) ?_;dsimp only;refine lls HW 0 11 _ Tryz.underlying4 ?_)|((with_reducible refine gd 24 rfl ?_);refine ay (by rfl) ?_;dsimp only;refine lls HW 0 22 _ Tryz.underlying9 ?_)|((with_reducible refine gd 30 rfl ?_);refine ay (by rfl) ?_;dsimp only;refine lls HW 0 23 _ Tryz.underlying9 ?_))
      go_ret
      exact⟨by first|rfl|(simp;done)|(simp[*];done),(HW.out.underN hbe (Below.refl _ _) (.none _ _))⟩
     ·skip
      have WK:=decide_eq_false c117
      go_wp2_with (first|((with_reducible refine gd 4 rfl ?_);refine lE HW 0 0 ?_)|((with_reducible refine gq 14 rfl ?_);refine gl (some 5) Tryz.func14 #[(.agg (eC _ _ _ _ _ _ _ _ _ _ _).toArray)] ?_;with_reducible refine(mG (hE.below (HW.out.underN hbe (Below.refl _ _) (.none _ _))) hs hX.out).mono ?_;rintro e Cq ⟨rfl,hb⟩;refine⟨_,rfl,?_⟩;replace HW:=ah.mk (HW.out.quiet hb);clear hb)|((with_reducible refine gd 8 rfl ?_);refine ay (by rfl) ?_;dsimp only;refine qi HW 0 11 (eC _ _ _ _ _ _ _ _ _ _ _) Tryz.underlying31 ?_)|(go_at_call 14;with_reducible refine(mG (hF.below (HW.out.underN hbe (Below.refl _ _) (.none _ _))) hs2 hY.out).mono ?_;rintro e zu ⟨rfl,hb⟩;replace HW:=ah.mk (HW.out.quiet hb);clear hb)|((with_reducible refine gd 14 rfl ?_);refine ay (by rfl) ?_;dsimp only;refine lls HW 0 0 _ Tryz.underlying4 ?_)|((with_reducible refine gd 20 rfl ?_);refine ay (by rfl) ?_;dsimp only;refine lls HW 0 11 _ Tryz.underlying4 ?_)|((with_reducible refine gd 24 rfl ?_);refine ay (by rfl) ?_;dsimp only;refine lls HW 0 22 _ Tryz.underlying9 ?_))
      go_ret
      exact⟨by first|rfl|(simp;done)|(simp[*];done),(HW.out.underN hbe (Below.refl _ _) (.none _ _))⟩
    |false=>
     go_wp2_with (first|((with_reducible refine gd 4 rfl ?_);refine lE HW 0 0 ?_)|((with_reducible refine gq 14 rfl ?_);refine gl (some 5) Tryz.func14 #[(.agg (eC _ _ _ _ _ _ _ _ _ _ _).toArray)] ?_;with_reducible refine(mG (hE.below (HW.out.underN hbe (Below.refl _ _) (.none _ _))) hs hX.out).mono ?_;rintro e zw ⟨rfl,hb⟩;refine⟨_,rfl,?_⟩;replace HW:=ah.mk (HW.out.quiet hb);clear hb)|((with_reducible refine gd 8 rfl ?_);refine ay (by rfl) ?_;dsimp only;refine qi HW 0 11 (eC _ _ _ _ _ _ _ _ _ _ _) Tryz.underlying31 ?_)|(go_at_call 14;with_reducible refine(mG (hF.below (HW.out.underN hbe (Below.refl _ _) (.none _ _))) hs2 hY.out).mono ?_;rintro e Cr ⟨rfl,hb⟩;replace HW:=ah.mk (HW.out.quiet hb);clear hb)|((with_reducible refine gd 14 rfl ?_);refine ay (by rfl) ?_;dsimp only;refine lls HW 0 0 _ Tryz.underlying4 ?_)|((with_reducible refine gd 20 rfl ?_);refine ay (by rfl) ?_;dsimp only;refine lls HW 0 11 _ Tryz.underlying4 ?_))
     go_ret
     exact⟨by first|rfl|(simp;done)|(simp[*];done),(HW.out.underN hbe (Below.refl _ _) (.none _ _))⟩
  |false=>
   go_wp2_with (first|((with_reducible refine gd 4 rfl ?_);refine lE HW 0 0 ?_)|((with_reducible refine gq 14 rfl ?_);refine gl (some 5) Tryz.func14 #[(.agg (eC _ _ _ _ _ _ _ _ _ _ _).toArray)] ?_;with_reducible refine(mG (hE.below (HW.out.underN hbe (Below.refl _ _) (.none _ _))) hs hX.out).mono ?_;rintro e Eh ⟨rfl,hb⟩;refine⟨_,rfl,?_⟩;replace HW:=ah.mk (HW.out.quiet hb);clear hb)|((with_reducible refine gd 8 rfl ?_);refine ay (by rfl) ?_;dsimp only;refine qi HW 0 11 (eC _ _ _ _ _ _ _ _ _ _ _) Tryz.underlying31 ?_)|(go_at_call 14;with_reducible refine(mG (hF.below (HW.out.underN hbe (Below.refl _ _) (.none _ _))) hs2 hY.out).mono ?_;rintro e GJ ⟨rfl,hb⟩;replace HW:=ah.mk (HW.out.quiet hb);clear hb))
   go_ret
   exact⟨by first|rfl|(simp;done)|(simp[*];done),(HW.out.underN hbe (Below.refl _ _) (.none _ _))⟩
 |false=>
  go_wp2_with (first|((with_reducible refine gd 4 rfl ?_);refine lE HW 0 0 ?_)|((with_reducible refine gq 14 rfl ?_);refine gl (some 5) Tryz.func14 #[(.agg (eC _ _ _ _ _ _ _ _ _ _ _).toArray)] ?_;with_reducible refine(mG (hE.below (HW.out.underN hbe (Below.refl _ _) (.none _ _))) hs hX.out).mono ?_;rintro e GK ⟨rfl,hb⟩;refine⟨_,rfl,?_⟩;replace HW:=ah.mk (HW.out.quiet hb);clear hb))
  go_ret
  exact⟨by first|rfl|(simp;done)|(simp[*];done),(HW.out.underN hbe (Below.refl _ _) (.none _ _))⟩
theorem Qo{b N C:Nat}{w:World}{M:Nat→Nat→Prop}{x0:Bool}{v1:Value}{x2:Int}{v3:Value}{x4:Int}{x5:ByteArray}{v6:Value}{x7 x8:Int}{v9:Value}{x10:Bool}{id:Int}(hw:TW b M w)(hb0:b≤w.heap.size)(E:ET b M w N C v1 x2 v3 x4 x5 v6 v9)(hN:N≤3000000):Calls Tryz.prog 23 #[.agg (eC x0 v1 x2 v3 x4 x5 v6 x7 x8 v9 x10).toArray,.int .i64 id] w (Sr b M w (N+1) C):=by
 obtain⟨A1,n1,c1,A3,n3,c3,A6,n6,c6,A9,n9,c9,rfl,rfl,rfl,rfl,QC,QD⟩:=E.form4
 have HW:ah (LW b NX M w [] (xW b N C (.slice A1 n1 c1) x2 (.slice A3 n3 c3) x4 x5 (.slice A6 n6 c6) (.slice A9 n9 c9)) M w):=⟨LW.start hw E (Mon.et _ _ _ _ _ _ _ _ _)⟩
 clear hw E
 go_enter Tryz.func23,Tryz.ntmps23
 go_upto_region 2 with(first|((with_reducible refine gd 2 rfl ?_);refine lbx (N:=2) (t:=31) HW (eC x0 (.slice A1 n1 c1) x2 (.slice A3 n3 c3) x4 x5 (.slice A6 n6 c6) x7 x8 (.slice A9 n9 c9) x10) ?_;clear HW;intro g2 pJ HW)|((with_reducible refine gd 4 rfl ?_);refine lbx (N:=4) (t:=31) HW zE ?_;clear HW;intro g4 wR HW)|((with_reducible refine gd 7 rfl ?_);refine lE HW 1 0 ?_)|((with_reducible refine gq 49 rfl ?_);refine gl (some 9) Tryz.func49 #[(.agg (eC _ _ _ _ _ _ _ _ _ _ _).toArray),(.int .i64 id)] ?_;with_reducible refine(Je id HW.out.ts.tw (N:=N) (C:=C) (HW.out.g.up (by omega)) (by omega)).mono ?_;rintro e Ee ⟨aaX,rfl,aGz,aGA,hb⟩;refine⟨_,rfl,?_⟩;replace HW:=ah.mk (HW.out.quiet hb);clear hb))
 cases x0 with
 |true=>
  go_wp2_with (first|((with_reducible refine gd 11 rfl ?_);refine lls HW 1 0 _ Tryz.underlying4 ?_)|((with_reducible refine gd 25 rfl ?_);refine lE HW 1 0 ?_)|((with_reducible refine gt 31 4 rfl ?_);refine iC HW 0 ?_;clear HW;intro I7 HW))
  refine LA HW 0 Tryz.underlying31 ?_
  exact⟨_,_,_,rfl,HW.out.ts,⟨_,_,_,_,_,_,_,_,_,_,_,rfl,(HW.out.g.up (by omega))⟩⟩
 |false=>
  by_cases c107:aaX<0
  ·skip
   have Jr:=decide_eq_true c107
   go_wp2_with (first|((with_reducible refine gd 11 rfl ?_);refine lls HW 1 0 _ Tryz.underlying4 ?_)|((with_reducible refine gd 25 rfl ?_);refine lE HW 1 0 ?_)|((with_reducible refine gt 31 4 rfl ?_);refine iC HW 0 ?_;clear HW;intro Cs HW))
   refine LA HW 0 Tryz.underlying31 ?_
   exact⟨_,_,_,rfl,HW.out.ts,⟨_,_,_,_,_,_,_,_,_,_,_,rfl,(HW.out.g.up (by omega))⟩⟩
  ·skip
   have Jr:=decide_eq_false c107
   have Jt:=(show 0≤aaX∧aaX<(n6:Int)from⟨by omega,by omega⟩)
   obtain⟨aGB,aqM,_,_⟩:=SL.has (HW.out.g.s6) (by omega)
   subst aqM
   obtain⟨s0_e1,s1_e1,u2_e1,s3_e1,s4_e1,s5_e1,s6_e1,u7_e1,s8_e1,s9_e1,s10_e1,s11_e1,hr_e1,hs_e1⟩:=HW.out.rd39 (HW.out.g.s6) (i:=aaX) (by omega) (by omega)
   obtain⟨A2_e1,n2_e1,d2_e1,A7_e1,n7_e1,d7_e1,Ct,Cu⟩:=hs_e1.form
   subst Ct Cu
   replace HW:=ah.mk (LW.fact (H:=Jf b (.slice A2_e1 n2_e1 d2_e1) s3_e1 s6_e1 (.slice A7_e1 n7_e1 d7_e1) s8_e1) HW.out hs_e1 (Mon.st _ _ _ _ _))
   clear hs_e1
   have pi_e1:=eq_true Jt.1
   have qi_e1:=eq_true Jt.2
   have aPn:=hr_e1 1 _ rfl
   have aPo:=hr_e1 4 _ rfl
   have adR:=HW.out.cell (v:=(.slice (some ⟨aGB,0,none⟩) n6 c6)) 1 6
   go_upto_if 24 with(first|((with_reducible refine gd 11 rfl ?_);refine lls HW 1 0 _ Tryz.underlying4 ?_))
   by_cases Ei:s1_e1=1
   ·skip
    subst Ei
    go_upto_if 31 with(first|((with_reducible refine gd 27 rfl ?_);refine lls HW 1 6 _ Tryz.underlying26 ?_))
    cases s4_e1 with
    |true=>
     go_wp2_with (first|((with_reducible refine gd 33 rfl ?_);refine lls HW 1 9 _ Tryz.underlying29 ?_)|((with_reducible refine gd 36 rfl ?_);refine MC (N:=36) (t:=42) (m:=1) HW (fC 3 false id (⟨#[]⟩:ByteArray)) ?_;clear HW;intro g36 I8 HW)|((with_reducible refine gd 37 rfl ?_);refine lap (T:=42) (m:=1) (bytes:=40) (z:=.agg (fC 0 false 0 (⟨#[]⟩:ByteArray)).toArray) (news:=fC 3 false id (⟨#[]⟩:ByteArray)) HW (HW.out.g.1.s9) (HW.out.hb hb0) rfl (z8 HW.out (i:=0) rfl) (gF rfl) (by decide) (fun i hi=>by obtain rfl:i=0:=(by omega);exact .inr (.inl ⟨rfl,_,_,_,_,rfl,⟨fun h=>absurd h (by decide),by decide⟩⟩)) (by kernel_rfl) (by rfl) (by decide) (by omega) (by simp only[maxLen];omega) Tryz.underlying29 ?_;intro aqN c116 aTw yh HN gT qf;replace HW:=ah.mk (LW.fact (H:=Yh 42 (N+1) (.slice aqN (n9+1) c116)) HN.out qf (Mon.sl _ _ _));clear HN qf gT)|((with_reducible refine gt 29 38 rfl ?_);refine ow HW 2 9 (.slice aqN (n9+1) c116) (eC _ _ _ _ _ _ _ _ _ _ _) ([_]) ?_ (gF rfl);clear HW;intro zo HW)|((with_reducible refine gd 40 rfl ?_);refine lls HW 2 6 _ Tryz.underlying26 ?_)|((with_reducible refine gt 3 43 rfl ?_);refine lsn HW (HW.out.g.1.1.s6) Jt.1 Jt.2 1 (by decide) ?_;clear HW;intro vP HW)|((with_reducible refine gd 44 rfl ?_);refine lE HW 2 0 ?_)|((with_reducible refine gt 31 4 rfl ?_);refine iC HW 1 ?_;clear HW;intro uZ HW))
     refine LA HW 1 Tryz.underlying31 ?_
     exact⟨_,_,_,rfl,HW.out.ts,⟨_,_,_,_,_,_,_,_,_,_,_,rfl,⟨HW.out.g.1.1.t1,HW.out.g.1.1.t3,HW.out.g.1.1.c5,(HW.out.g.1.1.s6.mono (N':=(N+1)) (by omega)),(HW.out.g.2.mono (N':=(N+1)) (by omega))⟩⟩⟩
    |false=>
     go_wp2_with (first|((with_reducible refine gd 40 rfl ?_);refine lls HW 1 6 _ Tryz.underlying26 ?_)|((with_reducible refine gt 3 43 rfl ?_);refine lsn HW (HW.out.g.1.s6) Jt.1 Jt.2 1 (by decide) ?_;clear HW;intro Cq HW)|((with_reducible refine gd 44 rfl ?_);refine lE HW 1 0 ?_)|((with_reducible refine gt 31 4 rfl ?_);refine iC HW 0 ?_;clear HW;intro zu HW))
     refine LA HW 0 Tryz.underlying31 ?_
     exact⟨_,_,_,rfl,HW.out.ts,⟨_,_,_,_,_,_,_,_,_,_,_,rfl,(HW.out.g.1.up (by omega))⟩⟩
   ·skip
    have a2U:(s1_e1==1)=false:=beq_eq_false_iff_ne.mpr Ei
    have aqO:(s1_e1 != 1)=true:=bne_iff_ne.mpr Ei
    go_wp2_with (first|((with_reducible refine gd 25 rfl ?_);refine lE HW 1 0 ?_)|((with_reducible refine gt 31 4 rfl ?_);refine iC HW 0 ?_;clear HW;intro zw HW))
    refine LA HW 0 Tryz.underlying31 ?_
    exact⟨_,_,_,rfl,HW.out.ts,⟨_,_,_,_,_,_,_,_,_,_,_,rfl,(HW.out.g.1.up (by omega))⟩⟩
theorem Tf{b N C:Nat}{w:World}{M:Nat→Nat→Prop}{x0:Bool}{v1:Value}{x2:Int}{v3:Value}{x4:Int}{x5:ByteArray}{v6:Value}{x7 x8:Int}{v9:Value}{x10:Bool}{f0:Int}{f1:Bool}{f2:Int}{f3:ByteArray}(hw:TW b M w)(hb0:b≤w.heap.size)(E:ET b M w N C v1 x2 v3 x4 x5 v6 v9)(hN:N≤3000000)(hf:1≤f3.size):Calls Tryz.prog 101 #[.agg (eC x0 v1 x2 v3 x4 x5 v6 x7 x8 v9 x10).toArray,.agg (fC f0 f1 f2 f3).toArray] w (EPost b M w N C):=by
 obtain⟨A1,n1,c1,A3,n3,c3,A6,n6,c6,A9,n9,c9,rfl,rfl,rfl,rfl,QC,QD⟩:=E.form4
 have hf0:0<f3.size:=by omega
 have HW:ah (LW b NX M w [] (xW b N C (.slice A1 n1 c1) x2 (.slice A3 n3 c3) x4 x5 (.slice A6 n6 c6) (.slice A9 n9 c9)) M w):=⟨LW.start hw E (Mon.et _ _ _ _ _ _ _ _ _)⟩
 clear hw E
 go_enter Tryz.func101,Tryz.ntmps101
 go_upto_if 14 with(first|((with_reducible refine gd 2 rfl ?_);refine lbx (N:=2) (t:=31) HW (eC x0 (.slice A1 n1 c1) x2 (.slice A3 n3 c3) x4 x5 (.slice A6 n6 c6) x7 x8 (.slice A9 n9 c9) x10) ?_;clear HW;intro g2 pJ HW)|((with_reducible refine gd 3 rfl ?_);refine lbx (N:=3) (t:=42) HW (fC f0 f1 f2 f3) ?_;clear HW;intro g3 wR HW)|((with_reducible refine gd 4 rfl ?_);refine lbx (N:=4) (t:=31) HW zE ?_;clear HW;intro g4 Cv HW)|((with_reducible refine gd 9 rfl ?_);refine lls HW 1 3 _ Tryz.underlying9 ?_)|((with_reducible refine gd 13 rfl ?_);refine lls HW 1 2 _ Tryz.underlying3 ?_))
 by_cases vR:f2=0
 ·skip
  subst vR
  go_upto_region 4 with(first|((with_reducible refine gd 17 rfl ?_);refine lls HW 2 7 _ Tryz.underlying3 ?_)|((with_reducible refine gt 3 21 rfl ?_);refine lsi HW 2 7 (fun q=>eC x0 (.slice A1 n1 c1) x2 (.slice A3 n3 c3) x4 x5 (.slice A6 n6 c6) q x8 (.slice A9 n9 c9) x10) ?_;clear HW;intro aqP zi HW))
  cases x10 with
  |true=>
   go_wp2_with (first|((with_reducible refine gd 23 rfl ?_);refine lls HW 2 10 _ Tryz.underlying4 ?_)|((with_reducible refine gt 4 30 rfl ?_);refine ow HW 2 10 (.bool true) (eC _ _ _ _ _ _ _ _ _ _ _) ([_]) ?_ (gF rfl);clear HW;intro zl HW)|((with_reducible refine gd 33 rfl ?_);refine lls HW 2 7 _ Tryz.underlying3 ?_)|((with_reducible refine gd 34 rfl ?_);refine Sq _ _ ?_;intro aGC aAd aAe aAf)|((with_reducible refine gt 3 36 rfl ?_);refine ow HW 2 7 (.int .i64 aGC) (eC _ _ _ _ _ _ _ _ _ _ _) ([_]) ?_ (gF rfl);clear HW;intro zn HW)|((with_reducible refine gd 37 rfl ?_);refine lE HW 2 0 ?_)|((with_reducible refine gt 31 4 rfl ?_);refine iC HW 0 ?_;clear HW;intro Cw HW))
   refine kP HW 0 Tryz.underlying31 ?_
   exact⟨_,_,rfl,HW.out.ts,⟨_,_,_,_,_,_,_,_,_,_,_,rfl,(HW.out.g.up (by omega))⟩⟩
  |false=>
   have adR:=HW.out.cell (v:=(.int .i64 aqP)) 2 7
   go_wp2_with (first|((with_reducible refine gd 23 rfl ?_);refine lls HW 2 10 _ Tryz.underlying4 ?_)|((with_reducible refine gt 4 30 rfl ?_);refine lsb HW 2 10 (fun q=>eC x0 (.slice A1 n1 c1) x2 (.slice A3 n3 c3) x4 x5 (.slice A6 n6 c6) aqP x8 (.slice A9 n9 c9) q) ?_;clear HW;intro aTx zx HW)|((with_reducible refine gd 33 rfl ?_);refine lls HW 2 7 _ Tryz.underlying3 ?_)|((with_reducible refine gd 34 rfl ?_);refine Sq _ _ ?_;intro aGD aAg aAh aAi)|((with_reducible refine gt 3 36 rfl ?_);refine ow HW 2 7 (.int .i64 aGD) (eC _ _ _ _ _ _ _ _ _ _ _) ([_]) ?_ (gF rfl);clear HW;intro I8 HW)|((with_reducible refine gd 37 rfl ?_);refine lE HW 2 0 ?_)|((with_reducible refine gt 31 4 rfl ?_);refine iC HW 0 ?_;clear HW;intro yh HW))
   refine kP HW 0 Tryz.underlying31 ?_
   exact⟨_,_,rfl,HW.out.ts,⟨_,_,_,_,_,_,_,_,_,_,_,rfl,(HW.out.g.up (by omega))⟩⟩
 ·skip
  have Qp:(f2==0)=false:=beq_eq_false_iff_ne.mpr vR
  have a2V:(f2 != 0)=true:=bne_iff_ne.mpr vR
  go_upto_if 43 with(first|((with_reducible refine gd 38 rfl ?_);refine lE HW 2 0 ?_)|((with_reducible refine gd 40 rfl ?_);refine lls HW 1 2 _ Tryz.underlying3 ?_)|((with_reducible refine gq 49 rfl ?_);refine gl (some 41) Tryz.func49 #[(.agg (eC _ _ _ _ _ _ _ _ _ _ _).toArray),(.int .i64 f2)] ?_;with_reducible refine(Je f2 HW.out.ts.tw (N:=N) (C:=C) (HW.out.g.up (by omega)) (by omega)).mono ?_;rintro e vP ⟨aaY,rfl,aGE,aGF,hb⟩;refine⟨_,rfl,?_⟩;replace HW:=ah.mk (HW.out.quiet hb);clear hb))
  by_cases c119:aaY<0
  ·skip
   have WN:=decide_eq_true c119
   go_wp2_with (first|((with_reducible refine gt 4 44 rfl ?_);refine ow HW 2 10 (.bool true) (eC _ _ _ _ _ _ _ _ _ _ _) ([_]) ?_ (gF rfl);clear HW;intro Cq HW)|((with_reducible refine gd 45 rfl ?_);refine lE HW 2 0 ?_)|((with_reducible refine gt 31 4 rfl ?_);refine iC HW 0 ?_;clear HW;intro zu HW))
   refine kP HW 0 Tryz.underlying31 ?_
   exact⟨_,_,rfl,HW.out.ts,⟨_,_,_,_,_,_,_,_,_,_,_,rfl,(HW.out.g.up (by omega))⟩⟩
  ·skip
   have WN:=decide_eq_false c119
   go_upto_region 11 with(fail)
   have Ju:=(show 0≤aaY∧aaY<(n6:Int)from⟨by omega,by omega⟩)
   obtain⟨aGG,aqQ,_,_⟩:=SL.has (HW.out.g.s6) (by omega)
   subst aqQ
   obtain⟨s0_e,s1_e,u2_e,s3_e,s4_e,s5_e,s6_e,u7_e,s8_e,s9_e,s10_e,s11_e,Qd,vk⟩:=HW.out.rd39 (HW.out.g.s6) (i:=aaY) (by omega) (by omega)
   obtain⟨A2_e,n2_e,d2_e,A7_e,n7_e,d7_e,Ct,Cu⟩:=vk.form
   subst Ct Cu
   replace HW:=ah.mk (LW.fact (H:=Jf b (.slice A2_e n2_e d2_e) s3_e s6_e (.slice A7_e n7_e d7_e) s8_e) HW.out vk (Mon.st _ _ _ _ _))
   clear vk
   have YA:=eq_true Ju.1
   have YB:=eq_true Ju.2
   go_upto_region 13 with(first|((with_reducible refine gd 47 rfl ?_);refine lls HW 2 6 _ Tryz.underlying26 ?_)|((with_reducible refine gd 50 rfl ?_);refine lrw (cs:=sC s0_e s1_e (.slice A2_e n2_e d2_e) s3_e s4_e s5_e s6_e (.slice A7_e n7_e d7_e) s8_e s9_e s10_e s11_e) Qd Tryz.underlying39 ?_)|((with_reducible refine gd 7 rfl ?_);refine lbx (N:=7) (t:=39) HW zS ?_;clear HW;intro g7 Cr HW)|((with_reducible refine gt 39 7 rfl ?_);refine iC HW 0 ?_;clear HW;intro Eh HW)|((with_reducible refine gd 53 rfl ?_);refine lls HW 0 10 _ Tryz.underlying3 ?_)|((with_reducible refine gt 3 57 rfl ?_);refine lsi HW 0 10 (fun q=>sC s0_e s1_e (.slice A2_e n2_e d2_e) s3_e s4_e s5_e s6_e (.slice A7_e n7_e d7_e) s8_e s9_e q s11_e) ?_;clear HW;intro H9 GJ HW))
   cases x10 with
   |true=>
    go_wp2_with (first|((with_reducible refine gd 59 rfl ?_);refine lls HW 3 10 _ Tryz.underlying4 ?_)|((with_reducible refine gt 4 66 rfl ?_);refine ow HW 3 10 (.bool true) (eC _ _ _ _ _ _ _ _ _ _ _) ([_]) ?_ (gF rfl);clear HW;intro LF HW)|((with_reducible refine gd 69 rfl ?_);refine lls HW 0 10 _ Tryz.underlying3 ?_)|((with_reducible refine gd 70 rfl ?_);refine Sq _ _ ?_;intro aGH aAj aAk aAl)|((with_reducible refine gt 3 72 rfl ?_);refine ow HW 0 10 (.int .i64 aGH) (sC _ _ _ _ _ _ _ _ _ _ _ _) ([_]) ?_ (gF rfl);clear HW;intro SN HW)|((with_reducible refine gd 74 rfl ?_);refine lls HW 3 6 _ Tryz.underlying26 ?_)|((with_reducible refine gd 76 rfl ?_);refine lS HW 0 0 ?_)|((with_reducible refine gt 39 77 rfl ?_);have hS_:ST b _ (.slice A2_e n2_e d2_e) s3_e s6_e (.slice A7_e n7_e d7_e) s8_e:=HW.out.g.2;refine Yz HW (HW.out.g.1.s6) Ju.1 Ju.2 hS_ ?_;clear HW;intro a2S HW;clear hS_)|((with_reducible refine gd 78 rfl ?_);refine lE HW 3 0 ?_)|((with_reducible refine gt 31 4 rfl ?_);refine iC HW 1 ?_;clear HW;intro Qh HW))
    refine kP HW 1 Tryz.underlying31 ?_
    exact⟨_,_,rfl,HW.out.ts,⟨_,_,_,_,_,_,_,_,_,_,_,rfl,(HW.out.g.1.up (by omega))⟩⟩
   |false=>
    have aPp:=HW.out.cell (v:=(.int .i64 H9)) 0 10
    go_wp2_with (first|((with_reducible refine gd 59 rfl ?_);refine lls HW 3 10 _ Tryz.underlying4 ?_)|((with_reducible refine gt 4 66 rfl ?_);refine lsb HW 3 10 (fun q=>eC x0 (.slice A1 n1 c1) x2 (.slice A3 n3 c3) x4 x5 (.slice (some ⟨aGG,0,none⟩) n6 c6) x7 x8 (.slice A9 n9 c9) q) ?_;clear HW;intro aqC a2I HW)|((with_reducible refine gd 69 rfl ?_);refine lls HW 0 10 _ Tryz.underlying3 ?_)|((with_reducible refine gd 70 rfl ?_);refine Sq _ _ ?_;intro ahX aAm aAn aAo)|((with_reducible refine gt 3 72 rfl ?_);refine ow HW 0 10 (.int .i64 ahX) (sC _ _ _ _ _ _ _ _ _ _ _ _) ([_]) ?_ (gF rfl);clear HW;intro a2J HW)|((with_reducible refine gd 74 rfl ?_);refine lls HW 3 6 _ Tryz.underlying26 ?_)|((with_reducible refine gd 76 rfl ?_);refine lS HW 0 0 ?_)|((with_reducible refine gt 39 77 rfl ?_);have hS_:ST b _ (.slice A2_e n2_e d2_e) s3_e s6_e (.slice A7_e n7_e d7_e) s8_e:=HW.out.g.2;refine Yz HW (HW.out.g.1.s6) Ju.1 Ju.2 hS_ ?_;clear HW;intro ahY HW;clear hS_)|((with_reducible refine gd 78 rfl ?_);refine lE HW 3 0 ?_)|((with_reducible refine gt 31 4 rfl ?_);refine iC HW 1 ?_;clear HW;intro aqd HW))
    refine kP HW 1 Tryz.underlying31 ?_
    exact⟨_,_,rfl,HW.out.ts,⟨_,_,_,_,_,_,_,_,_,_,_,rfl,(HW.out.g.1.up (by omega))⟩⟩
theorem Qq{b N C:Nat}{w:World}{M:Nat→Nat→Prop}{x0:Bool}{v1:Value}{x2:Int}{v3:Value}{x4:Int}{x5:ByteArray}{v6:Value}{x7 x8:Int}{v9:Value}{x10:Bool}{f0:Int}{f1:Bool}{f2:Int}{f3:ByteArray}(hw:TW b M w)(hb0:b≤w.heap.size)(E:ET b M w N C v1 x2 v3 x4 x5 v6 v9)(hN:N≤2000000)(hf:f3.size≤700)(hg:f0=8→1≤f3.size):Calls Tryz.prog 97 #[.agg (eC x0 v1 x2 v3 x4 x5 v6 x7 x8 v9 x10).toArray,.agg (fC f0 f1 f2 f3).toArray] w (EPost b M w (N+2) C):=by
 obtain⟨A1,n1,c1,A3,n3,c3,A6,n6,c6,A9,n9,c9,rfl,rfl,rfl,rfl,QC,QD⟩:=E.form4
 have HW:ah (LW b NX M w [] (xW b N C (.slice A1 n1 c1) x2 (.slice A3 n3 c3) x4 x5 (.slice A6 n6 c6) (.slice A9 n9 c9)) M w):=⟨LW.start hw E (Mon.et _ _ _ _ _ _ _ _ _)⟩
 clear hw E
 go_enter Tryz.func97,Tryz.ntmps97
 go_upto_if 8 with(first|((with_reducible refine gd 2 rfl ?_);refine lbx (N:=2) (t:=31) HW (eC x0 (.slice A1 n1 c1) x2 (.slice A3 n3 c3) x4 x5 (.slice A6 n6 c6) x7 x8 (.slice A9 n9 c9) x10) ?_;clear HW;intro g2 pJ HW)|((with_reducible refine gd 3 rfl ?_);refine lbx (N:=3) (t:=42) HW (fC f0 f1 f2 f3) ?_;clear HW;intro g3 wR HW)|((with_reducible refine gd 4 rfl ?_);refine lbx (N:=4) (t:=31) HW zE ?_;clear HW;intro g4 Cv HW)|((with_reducible refine gd 7 rfl ?_);refine lls HW 1 0 _ Tryz.underlying3 ?_))
 by_cases vR:f0=1
 ·skip
  subst vR
  go_wp2_with (first|((with_reducible refine gd 10 rfl ?_);refine lE HW 2 0 ?_)|((with_reducible refine gd 11 rfl ?_);refine qi HW 1 0 (fC _ _ _ _) Tryz.underlying42 ?_)|((with_reducible refine gq 99 rfl ?_);refine gl (some 12) Tryz.func99 #[(.agg (eC _ _ _ _ _ _ _ _ _ _ _).toArray),(.agg (fC _ _ _ _).toArray)] ?_;with_reducible refine(SQ HW.out.ts.tw (HW.out.hb hb0) (N:=N) (C:=C) (HW.out.g.up (by omega)) (by omega) hf).mono ?_;rintro e I7 h_;obtain⟨E_,M_105,rfl,gT,hE_⟩:=h_.out;refine⟨_,rfl,?_⟩;obtain⟨aib,aic,aid,aie,aif,aii,aij,aik,ail,aim,ain,aio,aip,aiq,air,ais,ait,aiu,aaZ,rfl,hF_,ab0,ab1⟩:=hE_.out4;clear hE_;replace HW:=ah.mk (LW.et (HW.out.call gT) hF_);clear gT hF_)|((with_reducible refine gt 31 4 rfl ?_);refine iC HW 0 ?_;clear HW;intro zl HW))
  refine kP HW 0 Tryz.underlying31 ?_
  exact⟨_,_,rfl,HW.out.ts,⟨_,_,_,_,_,_,_,_,_,_,_,rfl,(HW.out.g.2.up (by omega))⟩⟩
 ·skip
  have Qp:(f0==1)=false:=beq_eq_false_iff_ne.mpr vR
  have a2V:(f0 != 1)=true:=bne_iff_ne.mpr vR
  go_upto_if 13 with(fail)
  by_cases wS:f0=0
  ·skip
   subst wS
   go_wp2_with (first|((with_reducible refine gd 15 rfl ?_);refine lE HW 2 0 ?_)|((with_reducible refine gd 16 rfl ?_);refine qi HW 1 0 (fC _ _ _ _) Tryz.underlying42 ?_)|((with_reducible refine gq 100 rfl ?_);refine gl (some 17) Tryz.func100 #[(.agg (eC _ _ _ _ _ _ _ _ _ _ _).toArray),(.agg (fC _ _ _ _).toArray)] ?_;with_reducible refine(Te HW.out.ts.tw (HW.out.hb hb0) (N:=N) (C:=C) (HW.out.g.up (by omega)) (by omega) hf).mono ?_;rintro e Cw h_;obtain⟨E_,M_109,rfl,gT,hE_⟩:=h_.out;refine⟨_,rfl,?_⟩;obtain⟨aiv,aiw,aix,aiy,aiz,aiA,aiB,aiC,aiD,aiE,aiF,aiG,aiH,aiI,aiJ,aiK,aiL,aiM,ab2,rfl,hF_,ab3,ab4⟩:=hE_.out4;clear hE_;replace HW:=ah.mk (LW.et (HW.out.call gT) hF_);clear gT hF_)|((with_reducible refine gt 31 4 rfl ?_);refine iC HW 0 ?_;clear HW;intro GU HW))
   refine kP HW 0 Tryz.underlying31 ?_
   exact⟨_,_,rfl,HW.out.ts,⟨_,_,_,_,_,_,_,_,_,_,_,rfl,(HW.out.g.2.up (by omega))⟩⟩
  ·skip
   have Jm:(f0==0)=false:=beq_eq_false_iff_ne.mpr wS
   have adS:(f0 != 0)=true:=bne_iff_ne.mpr wS
   go_upto_if 18 with(fail)
   by_cases Bw:f0=8
   ·skip
    subst Bw
    go_wp2_with (first|((with_reducible refine gd 20 rfl ?_);refine lE HW 2 0 ?_)|((with_reducible refine gd 21 rfl ?_);refine qi HW 1 0 (fC _ _ _ _) Tryz.underlying42 ?_)|((with_reducible refine gq 101 rfl ?_);refine gl (some 22) Tryz.func101 #[(.agg (eC _ _ _ _ _ _ _ _ _ _ _).toArray),(.agg (fC _ _ _ _).toArray)] ?_;with_reducible refine(Tf HW.out.ts.tw (HW.out.hb hb0) (N:=N) (C:=C) (HW.out.g.up (by omega)) (by omega) (hg rfl)).mono ?_;rintro e Eg h_;obtain⟨E_,M_113,rfl,gT,hE_⟩:=h_.out;refine⟨_,rfl,?_⟩;obtain⟨aGI,aGJ,aGK,aGL,aGM,aGN,aGO,aGP,aGQ,aGR,aGS,aGT,aGU,aGV,aGW,aGX,aGY,aGZ,aAp,rfl,hF_,aAq,aAr⟩:=hE_.out4;clear hE_;replace HW:=ah.mk (LW.et (HW.out.call gT) hF_);clear gT hF_)|((with_reducible refine gt 31 4 rfl ?_);refine iC HW 0 ?_;clear HW;intro I8 HW))
    refine kP HW 0 Tryz.underlying31 ?_
    exact⟨_,_,rfl,HW.out.ts,⟨_,_,_,_,_,_,_,_,_,_,_,rfl,(HW.out.g.2.up (by omega))⟩⟩
   ·skip
    have WM:(f0==8)=false:=beq_eq_false_iff_ne.mpr Bw
    have adM:(f0 != 8)=true:=bne_iff_ne.mpr Bw
    go_upto_region 9 with(first|((with_reducible refine gd 23 rfl ?_);refine lE HW 2 0 ?_)|((with_reducible refine gd 25 rfl ?_);refine lls HW 1 2 _ Tryz.underlying3 ?_)|((with_reducible refine gq 49 rfl ?_);refine gl (some 26) Tryz.func49 #[(.agg (eC _ _ _ _ _ _ _ _ _ _ _).toArray),(.int .i64 f2)] ?_;with_reducible refine(Je f2 HW.out.ts.tw (N:=N) (C:=C) (HW.out.g.up (by omega)) (by omega)).mono ?_;rintro e zo ⟨ab5,rfl,aH0,aH1,hb⟩;refine⟨_,rfl,?_⟩;replace HW:=ah.mk (HW.out.quiet hb);clear hb))
    by_cases Ym:ab5<0
    ·skip
     have adT:=decide_eq_true Ym
     go_wp2_with (first|((with_reducible refine gt 4 34 rfl ?_);refine ow HW 2 10 (.bool true) (eC _ _ _ _ _ _ _ _ _ _ _) ([_]) ?_ (gF rfl);clear HW;intro uZ HW)|((with_reducible refine gd 35 rfl ?_);refine lE HW 2 0 ?_)|((with_reducible refine gt 31 4 rfl ?_);refine iC HW 0 ?_;clear HW;intro Cq HW))
     refine kP HW 0 Tryz.underlying31 ?_
     exact⟨_,_,rfl,HW.out.ts,⟨_,_,_,_,_,_,_,_,_,_,_,rfl,(HW.out.g.up (by omega))⟩⟩
    ·skip
     have adT:=decide_eq_false Ym
     have aPq:=HW.out.cell (v:=(.bool x0)) 2 0
     go_upto_if 33 with(fail)
     cases x0 with
     |true=>
      go_upto_region 12 with(fail)
      have WQ:=(show 0≤ab5∧ab5<(n6:Int)from⟨by omega,by omega⟩)
      obtain⟨aTy,aqR,_,_⟩:=SL.has (HW.out.g.s6) (by omega)
      subst aqR
      obtain⟨s0_e,s1_e,u2_e,s3_e,s4_e,s5_e,s6_e,u7_e,s8_e,s9_e,s10_e,s11_e,Qd,vk⟩:=HW.out.rd39 (HW.out.g.s6) (i:=ab5) (by omega) (by omega)
      obtain⟨A2_e,n2_e,d2_e,A7_e,n7_e,d7_e,Ct,Cu⟩:=vk.form
      subst Ct Cu
      replace HW:=ah.mk (LW.fact (H:=Jf b (.slice A2_e n2_e d2_e) s3_e s6_e (.slice A7_e n7_e d7_e) s8_e) HW.out vk (Mon.st _ _ _ _ _))
      clear vk
      have YA:=eq_true WQ.1
      have YB:=eq_true WQ.2
      go_wp2_with (first|((with_reducible refine gd 37 rfl ?_);refine lls HW 2 6 _ Tryz.underlying26 ?_)|((with_reducible refine gt 3 40 rfl ?_);refine lsn HW (HW.out.g.1.s6) WQ.1 WQ.2 1 (by decide) ?_;clear HW;intro Eh HW)|((with_reducible refine gd 41 rfl ?_);refine lE HW 2 0 ?_)|((with_reducible refine gt 31 4 rfl ?_);refine iC HW 0 ?_;clear HW;intro GJ HW))
      refine kP HW 0 Tryz.underlying31 ?_
      exact⟨_,_,rfl,HW.out.ts,⟨_,_,_,_,_,_,_,_,_,_,_,rfl,(HW.out.g.1.up (by omega))⟩⟩
     |false=>
      go_wp2_with (first|((with_reducible refine gt 4 34 rfl ?_);refine ow HW 2 10 (.bool true) (eC _ _ _ _ _ _ _ _ _ _ _) ([_]) ?_ (gF rfl);clear HW;intro GK HW)|((with_reducible refine gd 35 rfl ?_);refine lE HW 2 0 ?_)|((with_reducible refine gt 31 4 rfl ?_);refine iC HW 0 ?_;clear HW;intro LF HW))
      refine kP HW 0 Tryz.underlying31 ?_
      exact⟨_,_,rfl,HW.out.ts,⟨_,_,_,_,_,_,_,_,_,_,_,rfl,(HW.out.g.up (by omega))⟩⟩
theorem Tg{b N C:Nat}{w:World}{M:Nat→Nat→Prop}{x0:Bool}{v1:Value}{x2:Int}{v3:Value}{x4:Int}{x5:ByteArray}{v6:Value}{x7 x8:Int}{v9:Value}{x10:Bool}{bb:ByteArray}(hw:TW b M w)(hb0:b≤w.heap.size)(E:ET b M w N C v1 x2 v3 x4 x5 v6 v9)(hN:N≤1500000)(hs:x5.size+bb.size≤700):Calls Tryz.prog 95 #[.agg (eC x0 v1 x2 v3 x4 x5 v6 x7 x8 v9 x10).toArray,.string bb] w (EPost b M w (N+700) 700):=by
 obtain⟨A1,n1,c1,A3,n3,c3,A6,n6,c6,A9,n9,c9,rfl,rfl,rfl,rfl,QC,QD⟩:=E.form4
 have I9:(9223372036854775807<x5.size+bb.size)=False:=eq_false (by omega)
 have aH2:(x5++bb).size≤700:=by rw[aK];omega
 have HW:ah (LW b NX M w [] (xW b N C (.slice A1 n1 c1) x2 (.slice A3 n3 c3) x4 x5 (.slice A6 n6 c6) (.slice A9 n9 c9)) M w):=⟨LW.start hw E (Mon.et _ _ _ _ _ _ _ _ _)⟩
 clear hw E
 go_enter Tryz.func95,Tryz.ntmps95
 go_wp2_with (first|((with_reducible refine gd 2 rfl ?_);refine lbx (N:=2) (t:=31) HW (eC x0 (.slice A1 n1 c1) x2 (.slice A3 n3 c3) x4 x5 (.slice A6 n6 c6) x7 x8 (.slice A9 n9 c9) x10) ?_;clear HW;intro g2 pJ HW)|((with_reducible refine gd 4 rfl ?_);refine lbx (N:=4) (t:=31) HW zE ?_;clear HW;intro g4 wR HW)|((with_reducible refine gd 9 rfl ?_);refine lls HW 1 5 _ Tryz.underlying9 ?_)|((with_reducible refine gt 9 12 rfl ?_);refine ow HW 1 5 (.string (x5++bb)) (eC _ _ _ _ _ _ _ _ _ _ _) ([_]) ?_ (gF rfl);clear HW;intro Cv HW))
 go_loopg [6,7] ((x5++bb).size) (fun kq y6 y7 wq=>∃(Mq:Nat→Nat→Prop)(Nr:Nat)(x0r:Bool)(A1r:Option Addr)(n1r:Nat)(c1r:Nat)(x2r:Int)(A3r:Option Addr)(n3r:Nat)(c3r:Nat)(x4r:Int)(x5r:ByteArray)(A6r:Option Addr)(n6r:Nat)(c6r:Nat)(x7r:Int)(x8r:Int)(A9r:Option Addr)(n9r:Nat)(c9r:Nat)(x10r:Bool),ah (x5r.size≤kq∧kq≤700∧Nr+x5r.size≤N+700)∧ah (LW b NX M w [⟨g4,eC false (.slice none 0 0) 0 (.slice none 0 0) 0 (⟨#[]⟩:ByteArray) (.slice none 0 0) 0 0 (.slice none 0 0) false,31⟩,⟨g2,eC x0r (.slice A1r n1r c1r) x2r (.slice A3r n3r c3r) x4r x5r (.slice A6r n6r c6r) x7r x8r (.slice A9r n9r c9r) x10r,31⟩] (xW b Nr 700 (.slice A1r n1r c1r) x2r (.slice A3r n3r c3r) x4r x5r (.slice A6r n6r c6r) (.slice A9r n9r c9r)) Mq wq))
 case atStart=>exact⟨_,N,_,_,_,_,_,_,_,_,_,_,_,_,_,_,_,_,_,_,_,⟨⟨by omega,by omega,by omega⟩⟩,⟨LW.less HW.out ⟨HW.out.g.t1,HW.out.g.t3,aH2,(HW.out.g.s6.mono (N':=N) (by omega)),(HW.out.g.s9.mono (N':=N) (by omega))⟩ (Mon.et _ _ _ _ _ _ _ _ _)⟩⟩
 case round=>
  clear HW
  obtain⟨Mq,Nr,x0r,A1r,n1r,c1r,x2r,A3r,n3r,c3r,x4r,x5r,A6r,n6r,c6r,x7r,x8r,A9r,n9r,c9r,x10r,HI,HC⟩:=hrel
  have HW:=HC
  clear HC
  obtain⟨hi1,hi2,hi3⟩:=HI.out
  go_upto_if 15 with(first|((with_reducible refine gd 14 rfl ?_);refine lls HW 1 10 _ Tryz.underlying4 ?_))
  cases x10r with
  |true=>
   go_wp2_with (first|((with_reducible refine gd 37 rfl ?_);refine lE HW 1 0 ?_)|((with_reducible refine gt 31 4 rfl ?_);refine iC HW 0 ?_;clear HW;intro zi HW))
   refine kP HW 0 Tryz.underlying31 ?_
   exact⟨_,_,rfl,HW.out.ts,⟨_,_,_,_,_,_,_,_,_,_,_,rfl,(HW.out.g.up (by omega))⟩⟩
  |false=>
   go_upto_if 24 with(first|((with_reducible refine gd 18 rfl ?_);refine lls HW 1 5 _ Tryz.underlying9 ?_)|((with_reducible refine gq 45 rfl ?_);refine gl (some 19) Tryz.func45 #[(.string x5r)] ?_;with_reducible refine(aa7 x5r (by omega)).mono ?_;rintro e zl ⟨aH3,aH4,aH5,aiN,Jv,a2W,rfl,aiO,hb⟩;refine⟨_,rfl,?_⟩;replace HW:=ah.mk (HW.out.quiet hb);clear hb)|((with_reducible refine gd 5 rfl ?_);refine lbx (N:=5) (t:=42) HW (fC 0 false 0 (⟨#[]⟩:ByteArray)) ?_;clear HW;intro g5 Cs HW)|((with_reducible refine gt 42 5 rfl ?_);refine iC HW 0 ?_;clear HW;intro zn HW))
   by_cases vQ:a2W<0
   ·skip
    have Bv:=decide_eq_true vQ
    go_upto_if 27 with(first|((with_reducible refine gt 4 25 rfl ?_);refine ow HW 2 10 (.bool true) (eC _ _ _ _ _ _ _ _ _ _ _) ([_]) ?_ (gF rfl);clear HW;intro GU HW))
    by_cases Bw:a2W≤0
    ·skip
     have WM:=decide_eq_true Bw
     go_wp2_with (first|((with_reducible refine gd 28 rfl ?_);refine lE HW 2 0 ?_)|((with_reducible refine gt 31 4 rfl ?_);refine iC HW 1 ?_;clear HW;intro zx HW))
     refine kP HW 1 Tryz.underlying31 ?_
     exact⟨_,_,rfl,HW.out.ts,⟨_,_,_,_,_,_,_,_,_,_,_,rfl,(HW.out.g.up (by omega))⟩⟩
    ·skip
     have WM:=decide_eq_false Bw
     exact absurd Bw (by omega)
   ·skip
    have Bv:=decide_eq_false vQ
    go_upto_if 27 with(fail)
    by_cases Cy:a2W≤0
    ·skip
     have WR:=decide_eq_true Cy
     go_wp2_with (first|((with_reducible refine gd 28 rfl ?_);refine lE HW 2 0 ?_)|((with_reducible refine gt 31 4 rfl ?_);refine iC HW 1 ?_;clear HW;intro I8 HW))
     refine kP HW 1 Tryz.underlying31 ?_
     exact⟨_,_,rfl,HW.out.ts,⟨_,_,_,_,_,_,_,_,_,_,_,rfl,(HW.out.g.up (by omega))⟩⟩
    ·skip
     have WR:=decide_eq_false Cy
     go_upto_region 8 with(fail)
     obtain⟨aTz,aH6,adU,ab6⟩:=aiO (by omega)
     replace adU:aiN.size≤700:=by omega
     have pu_:=eq_true (show 0≤Jv by omega)
     have qu_:=eq_true aH6
     have aTA:(x5r.extract Jv.toNat x5r.size).size+Jv.toNat=x5r.size:=by rw[ByteArray.size_extract];omega
     have ab7:(x5r.extract Jv.toNat x5r.size).size≤700:=by omega
     go_wp2_with (first|((with_reducible refine gd 30 rfl ?_);refine lls HW 2 5 _ Tryz.underlying9 ?_)|((with_reducible refine gt 9 33 rfl ?_);refine ow HW 2 5 (.string (x5r.extract Jv.toNat x5r.size)) (eC _ _ _ _ _ _ _ _ _ _ _) ([_]) ?_ (gF rfl);clear HW;intro yh HW)|((with_reducible refine gd 34 rfl ?_);refine lE HW 2 0 ?_)|((with_reducible refine gd 35 rfl ?_);refine qi HW 0 0 (fC _ _ _ _) Tryz.underlying42 ?_)|((with_reducible refine gq 97 rfl ?_);refine gl (some 36) Tryz.func97 #[(.agg (eC _ _ _ _ _ _ _ _ _ _ _).toArray),(.agg (fC _ _ _ _).toArray)] ?_;with_reducible refine(Qq HW.out.ts.tw (HW.out.hb hb0) (N:=Nr) (C:=((x5r.extract Jv.toNat x5r.size).size)) ⟨HW.out.g.t1,HW.out.g.t3,(Nat.le_refl _),(HW.out.g.s6.mono (N':=Nr) (by omega)),(HW.out.g.s9.mono (N':=Nr) (by omega))⟩ (by omega) adU ab6).mono ?_;rintro e vP h_;obtain⟨E_,M_117,rfl,gT,hE_⟩:=h_.out;refine⟨_,rfl,?_⟩;obtain⟨a2X,a2Y,a2Z,a3a,a3b,a3c,a3d,a3e,a3f,Tj,a3g,a3h,a3i,a3j,a3k,a3l,a3m,a3n,WS,rfl,hF_,WT,WU⟩:=hE_.out4;clear hE_;replace HW:=ah.mk (LW.et (HW.out.call gT) hF_);clear gT hF_)|((with_reducible refine gt 31 2 rfl ?_);refine iC HW 2 ?_;clear HW;intro uZ HW))
     have aTB:=HW.out.g.2.c5
     go_roundg (Tj.size)
     case measure=>omega
     case rel=>exact⟨_,Nr+2,_,_,_,_,_,_,_,_,_,_,_,_,_,_,_,_,_,_,_,⟨⟨Nat.le_refl _,by omega,by omega⟩⟩,⟨LW.less HW.out.drop ⟨HW.out.g.2.t1,HW.out.g.2.t3,(by omega),(HW.out.g.2.s6.mono (N':=(Nr+2)) (by omega)),(HW.out.g.2.s9.mono (N':=(Nr+2)) (by omega))⟩ (Mon.et _ _ _ _ _ _ _ _ _)⟩⟩
theorem He{b N:Nat}{w:World}{M:Nat→Nat→Prop}{x0:Bool}{v1:Value}{x2:Int}{v3:Value}{x4:Int}{x5:ByteArray}{v6:Value}{x7 x8:Int}{v9:Value}{x10:Bool}{bb:ByteArray}(hw:TW b M w)(hb0:b≤w.heap.size)(E:ET b M w N 700 v1 x2 v3 x4 x5 v6 v9)(hN:N≤1500000)(hs:bb.size≤700):Calls Tryz.prog 90 #[.agg (eC x0 v1 x2 v3 x4 x5 v6 x7 x8 v9 x10).toArray,.string bb] w (EPost b M w (N+700) 700):=by
 obtain⟨A1,n1,c1,A3,n3,c3,A6,n6,c6,A9,n9,c9,rfl,rfl,rfl,rfl,QC,QD⟩:=E.form4
 have aTC:=E.c5
 have HW:ah (LW b NX M w [] (xW b N 700 (.slice A1 n1 c1) x2 (.slice A3 n3 c3) x4 x5 (.slice A6 n6 c6) (.slice A9 n9 c9)) M w):=⟨LW.start hw E (Mon.et _ _ _ _ _ _ _ _ _)⟩
 clear hw E
 go_enter Tryz.func90,Tryz.ntmps90
 go_upto_region 1 with(first|((with_reducible refine gd 2 rfl ?_);refine lbx (N:=2) (t:=31) HW (eC x0 (.slice A1 n1 c1) x2 (.slice A3 n3 c3) x4 x5 (.slice A6 n6 c6) x7 x8 (.slice A9 n9 c9) x10) ?_;clear HW;intro g2 pJ HW)|((with_reducible refine gd 4 rfl ?_);refine lbx (N:=4) (t:=31) HW zE ?_;clear HW;intro g4 wR HW))
 cases x10 with
 |true=>
  go_wp2_with (first|((with_reducible refine gd 6 rfl ?_);refine lls HW 1 10 _ Tryz.underlying4 ?_)|((with_reducible refine gd 22 rfl ?_);refine lE HW 1 0 ?_)|((with_reducible refine gt 31 4 rfl ?_);refine iC HW 0 ?_;clear HW;intro Ee HW))
  refine kP HW 0 Tryz.underlying31 ?_
  exact⟨_,_,rfl,HW.out.ts,⟨_,_,_,_,_,_,_,_,_,_,_,rfl,(HW.out.g.up (by omega))⟩⟩
 |false=>
  by_cases c105:(x5.size:Int)+(bb.size:Int)>300
  ·skip
   have Jo:=decide_eq_true c105
   have WH:=HW.out.cell (v:=(.string x5)) 1 5
   go_wp2_with (first|((with_reducible refine gd 6 rfl ?_);refine lls HW 1 10 _ Tryz.underlying4 ?_)|((with_reducible refine gd 22 rfl ?_);refine lE HW 1 0 ?_)|((with_reducible refine gt 31 4 rfl ?_);refine iC HW 0 ?_;clear HW;intro zl HW))
   refine kP HW 0 Tryz.underlying31 ?_
   exact⟨_,_,rfl,HW.out.ts,⟨_,_,_,_,_,_,_,_,_,_,_,rfl,(HW.out.g.up (by omega))⟩⟩
  ·skip
   have Jo:=decide_eq_false c105
   have aqS:=HW.out.cell (v:=(.string x5)) 1 5
   have adK:=HW.out.cell (v:=(.slice A9 n9 c9)) 1 9
   go_upto_if 21 with(first|((with_reducible refine gd 6 rfl ?_);refine lls HW 1 10 _ Tryz.underlying4 ?_))
   by_cases vQ:(n9:Int)>40
   ·skip
    have Bv:=decide_eq_true vQ
    go_wp2_with (first|((with_reducible refine gd 22 rfl ?_);refine lE HW 1 0 ?_)|((with_reducible refine gt 31 4 rfl ?_);refine iC HW 0 ?_;clear HW;intro GU HW))
    refine kP HW 0 Tryz.underlying31 ?_
    exact⟨_,_,rfl,HW.out.ts,⟨_,_,_,_,_,_,_,_,_,_,_,rfl,(HW.out.g.up (by omega))⟩⟩
   ·skip
    have Bv:=decide_eq_false vQ
    go_upto_region 3 with(fail)
    have aaP:x5.size+bb.size≤700:=by omega
    go_wp2_with (first|((with_reducible refine gd 23 rfl ?_);refine lE HW 1 0 ?_)|((with_reducible refine gq 95 rfl ?_);refine gl (some 25) Tryz.func95 #[(.agg (eC _ _ _ _ _ _ _ _ _ _ _).toArray),(.string bb)] ?_;with_reducible refine(Tg HW.out.ts.tw (HW.out.hb hb0) (N:=N) (C:=700) (HW.out.g.up (by omega)) (by omega) aaP).mono ?_;rintro e zx h_;obtain⟨E_,M_112,rfl,gT,hE_⟩:=h_.out;refine⟨_,rfl,?_⟩;obtain⟨aH7,aH8,aH9,aHa,aHb,aHc,aHd,aHe,aHf,aHg,aHh,aHi,aHj,aHk,aHl,aHm,aHn,aHo,aAs,rfl,hF_,aAt,aAu⟩:=hE_.out4;clear hE_;replace HW:=ah.mk (LW.et (HW.out.call gT) hF_);clear gT hF_)|((with_reducible refine gt 31 4 rfl ?_);refine iC HW 0 ?_;clear HW;intro Eg HW))
    refine kP HW 0 Tryz.underlying31 ?_
    exact⟨_,_,rfl,HW.out.ts,⟨_,_,_,_,_,_,_,_,_,_,_,rfl,(HW.out.g.2.up (by omega))⟩⟩
theorem Qr{b:Nat}{w:World}{M:Nat→Nat→Prop}(hw:TW b M w)(hb0:b≤w.heap.size):Calls Tryz.prog 67 #[] w (Ji b M w 0):=by
 have HW:ah (LW b NX M w [] (fun _ _=>True) M w):=⟨LW.start hw trivial (Mon.top _)⟩
 clear hw
 go_enter Tryz.func67,Tryz.ntmps67
 go_wp2_with (first|((with_reducible refine gd 0 rfl ?_);refine lbx (N:=0) (t:=47) HW zW ?_;clear HW;intro g0 pJ HW)|((with_reducible refine gq 79 rfl ?_);refine gl (some 1) Tryz.func79 #[(.bool false)] ?_;with_reducible refine(Jp false HW.out.ts.tw (HW.out.hb hb0)).mono ?_;rintro e Cv h_;obtain⟨E_,M_102,rfl,gT,hE_⟩:=h_.out;refine⟨_,rfl,?_⟩;obtain⟨a3o,a3p,a3q,a3r,a3s,a3t,a3u,a3v,a3w,a3x,a3y,LP,a3z,a3A,a3B,a3C,a3D,a3E,WX,rfl,hF_,WY,WZ⟩:=hE_.out4;clear hE_;replace HW:=ah.mk (LW.et (HW.out.call gT) hF_);clear gT hF_)|((with_reducible refine gq 79 rfl ?_);refine gl (some 2) Tryz.func79 #[(.bool true)] ?_;with_reducible refine(Jp true HW.out.ts.tw (HW.out.hb hb0)).mono ?_;rintro e zi h_;obtain⟨E_,M_104,rfl,gT,hE_⟩:=h_.out;refine⟨_,rfl,?_⟩;obtain⟨Cz,CB,CF,CG,CJ,CK,CO,CP,CQ,CR,CS,CU,CV,CW,CX,CY,CZ,D5,yc,rfl,hF_,X0,X3⟩:=hE_.out4;clear hE_;replace HW:=ah.mk (LW.et (HW.out.call gT) hF_);clear gT hF_)|((with_reducible refine gt 47 0 rfl ?_);refine iC HW 0 ?_;clear HW;intro I7 HW))
 refine kP HW 0 Tryz.underlying47 ?_
 exact⟨_,_,rfl,HW.out.ts,⟨_,_,_,_,_,_,_,_,_,_,_,_,_,_,_,_,_,_,_,_,_,_,_,_,rfl,(HW.out.g.1.2.up (by omega)),(HW.out.g.2.up (by omega)),(by decide),(by decide)⟩⟩
def jY.T6:Bool×List (List Nat×List Nat):=(true,[([],[]),([0],[0]),([],[]),([2],[2]),([],[]),([3,4],[3,4]),([1,5],[1,5]),([0,1,2,3,4,5,6],[]),([7,6,6,0,1,2,3,4,5,6],[6,7])])
def jY.B6:List Nat:=[0,1,0,4,0,28,63,127,255]
theorem jY.tab6:jG .any (opsOf Tryz.f83 6)=jY.T6:=by kernel_rfl
theorem jY.bits6:fQ jY.T6.2 jY.B6=true:=by kernel_rfl
def jY.T10:Bool×List (List Nat×List Nat):=(true,[([],[]),([0],[0]),([],[]),([2],[2]),([],[]),([3,4],[3,4]),([1,5],[1,5]),([0,1,2,3,4,5,6],[]),([7,6,6,0,1,2,3,4,5,6],[6,7])])
def jY.B10:List Nat:=[0,1,0,4,0,28,63,127,255]
theorem jY.tab10:jG .any (opsOf Tryz.f83 10)=jY.T10:=by kernel_rfl
theorem jY.bits10:fQ jY.T10.2 jY.B10=true:=by kernel_rfl
theorem Tk{b N:Nat}{w:World}{M:Nat→Nat→Prop}{x0:Bool}{v1:Value}{x2:Int}{v3:Value}{x4:Int}{x5:ByteArray}{v6:Value}{x7 x8:Int}{v9:Value}{x10:Bool}{y0:Bool}{u1:Value}{y2:Int}{u3:Value}{y4:Int}{y5:ByteArray}{u6:Value}{y7 y8:Int}{u9:Value}{oH:Bool}{su sd:ByteArray}{way n:Int}(hw:TW b M w)(hb0:b≤w.heap.size)(E:ET b M w N 700 v1 x2 v3 x4 x5 v6 v9)(F:ET b M w N 700 u1 y2 u3 y4 y5 u6 u9)(hN:N≤1000000)(hsu:su.size≤800)(hsd:sd.size≤800):Calls Tryz.prog 83 #[.agg (wC x0 v1 x2 v3 x4 x5 v6 x7 x8 v9 x10 y0 u1 y2 u3 y4 y5 u6 y7 y8 u9 oH su sd).toArray,.int .i64 way,.int .i64 n] w (Ji b M w (N+700)):=by
 obtain⟨A1,n1,c1,A3,n3,c3,A6,n6,c6,A9,n9,c9,rfl,rfl,rfl,rfl,QC,QD⟩:=E.form4
 obtain⟨B1,m1,k1,B3,m3,k3,B6,m6,k6,B9,m9,k9,rfl,rfl,rfl,rfl,hm6,hm9⟩:=F.form4
 have HW:ah (LW b NX M w [] (xW b N 700 (.slice A1 n1 c1) x2 (.slice A3 n3 c3) x4 x5 (.slice A6 n6 c6) (.slice A9 n9 c9)) M w):=⟨LW.start hw E (Mon.et _ _ _ _ _ _ _ _ _)⟩
 replace HW:=ah.mk (LW.fact (H:=xW b N 700 (.slice B1 m1 k1) y2 (.slice B3 m3 k3) y4 y5 (.slice B6 m6 k6) (.slice B9 m9 k9)) HW.out F (Mon.et _ _ _ _ _ _ _ _ _))
 clear hw E F
 go_enter Tryz.func83,Tryz.ntmps83
 go_upto_if 11 with(first|((with_reducible refine gd 3 rfl ?_);refine lbx (N:=3) (t:=47) HW (wC x0 (.slice A1 n1 c1) x2 (.slice A3 n3 c3) x4 x5 (.slice A6 n6 c6) x7 x8 (.slice A9 n9 c9) x10 y0 (.slice B1 m1 k1) y2 (.slice B3 m3 k3) y4 y5 (.slice B6 m6 k6) y7 y8 (.slice B9 m9 k9) oH su sd) ?_;clear HW;intro g3 pJ HW)|((with_reducible refine gd 6 rfl ?_);refine lbx (N:=6) (t:=47) HW zW ?_;clear HW;intro g6 wR HW)|((with_reducible refine gq 44 rfl ?_);refine gl (some 10) Tryz.func44 #[(.int .i64 n),(.int .i64 0),(.int .i64 90)] ?_;with_reducible refine(apY n 0 90).mono ?_;rintro e Ee ⟨aqT,rfl,X4,hb⟩;refine⟨_,rfl,?_⟩;replace HW:=ah.mk (HW.out.quiet hb);clear hb))
 cases aqT with
 |true=>
  go_upto_if 14 with(fail)
  by_cases zy:way=0
  ·skip
   subst zy
   go_upto_region 6 with(first|((with_reducible refine gd 18 rfl ?_);refine lls HW 1 22 _ Tryz.underlying9 ?_)|((with_reducible refine gd 20 rfl ?_);refine Sq _ _ ?_;intro Yn aAv aAw aAx))
   obtain⟨aHp,aHq⟩:=X4 rfl
   have pu_:=eq_true (show(0:Int)≤Yn by omega)
   have qu_:=eq_true (show Yn≤(su.size:Int) by omega)
   have aiP:(su.extract 0 Yn.toNat).size≤700:=by rw[ByteArray.size_extract];omega
   have ab7:(su.extract Yn.toNat su.size).size≤800:=by rw[ByteArray.size_extract];omega
   refine mY HW (fun _=>True) [6,8] 9 (trivial) (fun Cs HN hHeld=>?_)
   replace HW:=HN
   clear HN
   refine bK jY.tab6 jY.bits6 (fun HT_ HW_=>?_)
   refine pw 0 ?_
   refine tk 1 (some 22) (bm 9 3) rfl rfl hHeld ?_ (hy:=Wp _ 1 11 (eC _ _ _ _ _ _ _ _ _ _ _) Tryz.underlying31)
   refine pw 2 ?_
   refine tk 3 (some 24) (bm 9 15) rfl rfl hHeld ?_ (hy:=kG _ 1 22 _ Tryz.underlying9)
   refine pw 4 ?_
   refine pw 5 ?_
   refine la 6 (bm 9 127) fun K hK=>?_
   refine gs Tryz.func90 #[(.agg (eC _ _ _ _ _ _ _ _ _ _ _).toArray),(.string (su.extract 0 Yn.toNat))] ?_
   with_reducible refine(He HW.out.ts.tw (HW.out.hb hb0) (N:=N) (HW.out.g.2.up (by omega)) (by omega) aiP).mono ?_
   rintro e Cw h_
   obtain⟨E_,M_109,rfl,gT,hE_⟩:=h_.out
   refine⟨_,rfl,?_⟩
   obtain⟨aiv,aiw,aix,aiy,aiz,aiA,aiB,aiC,aiD,aiE,aiF,aiG,aiH,aiI,aiJ,aiK,aiL,aiM,ab2,rfl,hF_,ab3,ab4⟩:=hE_.out4
   clear hE_
   replace HW:=ah.mk (LW.et (HW.out.call gT) hF_)
   clear gT hF_
   refine hK.out _ _ ?_
   clear hK K
   refine nm ?_
   refine pw 7 ?_
   refine la 8 (bm 9 511) fun K hK=>?_
   refine jX (by rfl) ?_
   refine rA HW 1 11 (.agg (eC _ _ _ _ _ _ _ _ _ _ _).toArray) (wC _ _ _ _ _ _ _ _ _ _ _ _ _ _ _ _ _ _ _ _ _ _ _ _) (eC _ _ _ _ _ _ _ _ _ _ _) ?_ (gF rfl)
   clear HW
   intro GU HW
   refine hK.out _ _ ?_
   clear hK K
   refine dn ?_
   clear HT_ HW_
   go_wp2_with (first|((with_reducible refine gd 30 rfl ?_);refine lls HW 1 22 _ Tryz.underlying9 ?_)|((with_reducible refine gt 9 33 rfl ?_);refine ow HW 1 22 (.string (su.extract Yn.toNat su.size)) (wC _ _ _ _ _ _ _ _ _ _ _ _ _ _ _ _ _ _ _ _ _ _ _ _) ([_]) ?_ (gF rfl);clear HW;intro Ef HW)|((with_reducible refine gd 54 rfl ?_);refine vO HW 1 0 ?_)|((with_reducible refine gt 47 6 rfl ?_);refine iC HW 0 ?_;clear HW;intro zx HW))
   refine kP HW 0 Tryz.underlying47 ?_
   exact⟨_,_,rfl,HW.out.ts,⟨_,_,_,_,_,_,_,_,_,_,_,_,_,_,_,_,_,_,_,_,_,_,_,_,rfl,(HW.out.g.1.1.up (by omega)),(HW.out.g.2.up (by omega)),ab7,hsd⟩⟩
  ·skip
   have Ql:(way==0)=false:=beq_eq_false_iff_ne.mpr zy
   have aqU:(way != 0)=true:=bne_iff_ne.mpr zy
   go_upto_if 34 with(fail)
   by_cases Cy:way=1
   ·skip
    subst Cy
    go_upto_region 10 with(first|((with_reducible refine gd 38 rfl ?_);refine lls HW 1 23 _ Tryz.underlying9 ?_)|((with_reducible refine gd 40 rfl ?_);refine Sq _ _ ?_;intro Tm aAy aAz aAA))
    obtain⟨aHp,aHq⟩:=X4 rfl
    have pu_:=eq_true (show(0:Int)≤Tm by omega)
    have qu_:=eq_true (show Tm≤(sd.size:Int) by omega)
    have aiP:(sd.extract 0 Tm.toNat).size≤700:=by rw[ByteArray.size_extract];omega
    have ab7:(sd.extract Tm.toNat sd.size).size≤800:=by rw[ByteArray.size_extract];omega
    refine mY HW (fun _=>True) [6,8] 9 (trivial) (fun yh HN hHeld=>?_)
    replace HW:=HN
    clear HN
    refine bK jY.tab10 jY.bits10 (fun HT_ HW_=>?_)
    refine pw 0 ?_
    refine tk 1 (some 42) (bm 9 3) rfl rfl hHeld ?_ (hy:=Wp _ 1 0 (eC _ _ _ _ _ _ _ _ _ _ _) Tryz.underlying31)
    refine pw 2 ?_
    refine tk 3 (some 44) (bm 9 15) rfl rfl hHeld ?_ (hy:=kG _ 1 23 _ Tryz.underlying9)
    refine pw 4 ?_
    refine pw 5 ?_
    refine la 6 (bm 9 127) fun K hK=>?_
    refine gs Tryz.func90 #[(.agg (eC _ _ _ _ _ _ _ _ _ _ _).toArray),(.string (sd.extract 0 Tm.toNat))] ?_
    with_reducible refine(He HW.out.ts.tw (HW.out.hb hb0) (N:=N) (HW.out.g.1.up (by omega)) (by omega) aiP).mono ?_
    rintro e vP h_
    obtain⟨E_,M_117,rfl,gT,hE_⟩:=h_.out
    refine⟨_,rfl,?_⟩
    obtain⟨a2X,a2Y,a2Z,a3a,a3b,a3c,a3d,a3e,a3f,Tj,a3g,a3h,a3i,a3j,a3k,a3l,a3m,a3n,WS,rfl,hF_,WT,WU⟩:=hE_.out4
    clear hE_
    replace HW:=ah.mk (LW.et (HW.out.call gT) hF_)
    clear gT hF_
    refine hK.out _ _ ?_
    clear hK K
    refine nm ?_
    refine pw 7 ?_
    refine la 8 (bm 9 511) fun K hK=>?_
    refine jX (by rfl) ?_
    refine rA HW 1 0 (.agg (eC _ _ _ _ _ _ _ _ _ _ _).toArray) (wC _ _ _ _ _ _ _ _ _ _ _ _ _ _ _ _ _ _ _ _ _ _ _ _) (eC _ _ _ _ _ _ _ _ _ _ _) ?_ (gF rfl)
    clear HW
    intro uZ HW
    refine hK.out _ _ ?_
    clear hK K
    refine dn ?_
    clear HT_ HW_
    go_wp2_with (first|((with_reducible refine gd 50 rfl ?_);refine lls HW 1 23 _ Tryz.underlying9 ?_)|((with_reducible refine gt 9 53 rfl ?_);refine ow HW 1 23 (.string (sd.extract Tm.toNat sd.size)) (wC _ _ _ _ _ _ _ _ _ _ _ _ _ _ _ _ _ _ _ _ _ _ _ _) ([_]) ?_ (gF rfl);clear HW;intro Cq HW)|((with_reducible refine gd 54 rfl ?_);refine vO HW 1 0 ?_)|((with_reducible refine gt 47 6 rfl ?_);refine iC HW 0 ?_;clear HW;intro zu HW))
    refine kP HW 0 Tryz.underlying47 ?_
    exact⟨_,_,rfl,HW.out.ts,⟨_,_,_,_,_,_,_,_,_,_,_,_,_,_,_,_,_,_,_,_,_,_,_,_,rfl,(HW.out.g.2.up (by omega)),(HW.out.g.1.2.up (by omega)),hsu,ab7⟩⟩
   ·skip
    have WR:(way==1)=false:=beq_eq_false_iff_ne.mpr Cy
    have adV:(way != 1)=true:=bne_iff_ne.mpr Cy
    go_wp2_with (first|((with_reducible refine gd 54 rfl ?_);refine vO HW 1 0 ?_)|((with_reducible refine gt 47 6 rfl ?_);refine iC HW 0 ?_;clear HW;intro zw HW))
    refine kP HW 0 Tryz.underlying47 ?_
    exact⟨_,_,rfl,HW.out.ts,⟨_,_,_,_,_,_,_,_,_,_,_,_,_,_,_,_,_,_,_,_,_,_,_,_,rfl,(HW.out.g.1.up (by omega)),(HW.out.g.2.up (by omega)),hsu,hsd⟩⟩
 |false=>
  go_wp2_with (first|((with_reducible refine gd 12 rfl ?_);refine vO HW 1 0 ?_)|((with_reducible refine gt 47 6 rfl ?_);refine iC HW 0 ?_;clear HW;intro Cr HW))
  refine kP HW 0 Tryz.underlying47 ?_
  exact⟨_,_,rfl,HW.out.ts,⟨_,_,_,_,_,_,_,_,_,_,_,_,_,_,_,_,_,_,_,_,_,_,_,_,rfl,(HW.out.g.1.up (by omega)),(HW.out.g.2.up (by omega)),hsu,hsd⟩⟩
def sJ.T9:Bool×List (List Nat×List Nat):=(true,[([],[]),([0],[0]),([],[]),([],[]),([3],[3]),([],[]),([4,5],[4,5]),([6],[6]),([7],[7]),([8],[8]),([],[]),([9,10],[9,10]),([11],[11]),([1,2,0,1,2,3,4,5,6,7,8,9,10,11,12],[1,2]),([13,0,1,2,3,4,5,6,7,8,9,10,11,12],[13]),([14,0,1,2,3,4,5,6,7,8,9,10,11,12],[14]),([15,12,0,1,2,3,4,5,6,7,8,9,10,11,12],[12,15])])
def sJ.B9:List Nat:=[0,1,0,0,8,0,56,120,248,504,0,2040,4088,8191,16383,32767,65535]
theorem sJ.tab9:jG .any (opsOf Tryz.f92 9)=sJ.T9:=by kernel_rfl
theorem sJ.bits9:fQ sJ.T9.2 sJ.B9=true:=by kernel_rfl
theorem Tn{b N C:Nat}{w:World}{M:Nat→Nat→Prop}{x0:Bool}{v1:Value}{x2:Int}{v3:Value}{x4:Int}{x5:ByteArray}{v6:Value}{x7 x8:Int}{v9:Value}{x10:Bool}{f0:Int}{f1:Bool}{f2:Int}{f3:ByteArray}(hw:TW b M w)(hb0:b≤w.heap.size)(E:ET b M w N C v1 x2 v3 x4 x5 v6 v9)(hN:N≤3000000)(hf:f0=8→1≤f3.size):Calls Tryz.prog 92 #[.agg (eC x0 v1 x2 v3 x4 x5 v6 x7 x8 v9 x10).toArray,.agg (fC f0 f1 f2 f3).toArray] w (a2q b M w (fun q=>eC x0 v1 x2 v3 x4 x5 v6 x7 q v9 x10)):=by
 obtain⟨A1,n1,c1,A3,n3,c3,A6,n6,c6,A9,n9,c9,rfl,rfl,rfl,rfl,QC,QD⟩:=E.form4
 have HW:ah (LW b NX M w [] (xW b N C (.slice A1 n1 c1) x2 (.slice A3 n3 c3) x4 x5 (.slice A6 n6 c6) (.slice A9 n9 c9)) M w):=⟨LW.start hw E (Mon.et _ _ _ _ _ _ _ _ _)⟩
 clear hw E
 go_enter Tryz.func92,Tryz.ntmps92
 go_upto_if 9 with(first|((with_reducible refine gd 2 rfl ?_);refine lbx (N:=2) (t:=31) HW (eC x0 (.slice A1 n1 c1) x2 (.slice A3 n3 c3) x4 x5 (.slice A6 n6 c6) x7 x8 (.slice A9 n9 c9) x10) ?_;clear HW;intro g2 pJ HW)|((with_reducible refine gd 3 rfl ?_);refine lbx (N:=3) (t:=42) HW (fC f0 f1 f2 f3) ?_;clear HW;intro g3 wR HW)|((with_reducible refine gd 4 rfl ?_);refine lbx (N:=4) (t:=31) HW zE ?_;clear HW;intro g4 Cv HW)|((with_reducible refine gd 8 rfl ?_);refine lls HW 1 0 _ Tryz.underlying3 ?_))
 by_cases vR:f0=8
 ·skip
  subst vR
  go_upto_region 3 with(fail)
  have hf0:0<f3.size:=hf rfl
  go_upto_if 17 with(first|((with_reducible refine gd 12 rfl ?_);refine lls HW 1 3 _ Tryz.underlying9 ?_)|((with_reducible refine gd 16 rfl ?_);refine lls HW 1 2 _ Tryz.underlying3 ?_))
  by_cases c105:f2=0
  ·skip
   subst c105
   go_wp2_with (first|((with_reducible refine gd 20 rfl ?_);refine lls HW 2 8 _ Tryz.underlying3 ?_)|((with_reducible refine gd 23 rfl ?_);refine Sq _ _ ?_;intro aHr aAB aAC aAD)|((with_reducible refine gt 3 25 rfl ?_);refine ow HW 2 8 (.int .i64 aHr) (eC _ _ _ _ _ _ _ _ _ _ _) ([_]) ?_ (gF rfl);clear HW;intro zl HW)|((with_reducible refine gd 26 rfl ?_);refine lE HW 2 0 ?_)|((with_reducible refine gt 31 4 rfl ?_);refine iC HW 0 ?_;clear HW;intro Cs HW))
   refine kP HW 0 Tryz.underlying31 ?_
   exact⟨_,_,rfl,HW.out.ts⟩
  ·skip
   have Jo:(f2==0)=false:=beq_eq_false_iff_ne.mpr c105
   have adL:(f2 != 0)=true:=bne_iff_ne.mpr c105
   go_upto_if 32 with(first|((with_reducible refine gd 27 rfl ?_);refine lE HW 2 0 ?_)|((with_reducible refine gd 29 rfl ?_);refine lls HW 1 2 _ Tryz.underlying3 ?_)|((with_reducible refine gq 49 rfl ?_);refine gl (some 30) Tryz.func49 #[(.agg (eC _ _ _ _ _ _ _ _ _ _ _).toArray),(.int .i64 f2)] ?_;with_reducible refine(Je f2 HW.out.ts.tw (N:=N) (C:=C) (HW.out.g.up (by omega)) (by omega)).mono ?_;rintro e Cw ⟨a3F,rfl,aHs,aHt,hb⟩;refine⟨_,rfl,?_⟩;replace HW:=ah.mk (HW.out.quiet hb);clear hb))
   by_cases uy:a3F≥0
   ·skip
    have GN:=decide_eq_true uy
    go_upto_region 9 with(fail)
    have GQ:=(show 0≤a3F∧a3F<(n6:Int)from⟨by omega,by omega⟩)
    obtain⟨aq1,a2B,_,_⟩:=SL.has (HW.out.g.s6) (by omega)
    subst a2B
    obtain⟨s0_e,s1_e,u2_e,s3_e,s4_e,s5_e,s6_e,u7_e,s8_e,s9_e,s10_e,s11_e,Qd,vk⟩:=HW.out.rd39 (HW.out.g.s6) (i:=a3F) (by omega) (by omega)
    obtain⟨A2_e,n2_e,d2_e,A7_e,n7_e,d7_e,Ct,Cu⟩:=vk.form
    subst Ct Cu
    replace HW:=ah.mk (LW.fact (H:=Jf b (.slice A2_e n2_e d2_e) s3_e s6_e (.slice A7_e n7_e d7_e) s8_e) HW.out vk (Mon.st _ _ _ _ _))
    clear vk
    have YA:=eq_true GQ.1
    have YB:=eq_true GQ.2
    refine mY HW (fun W=>W.rangeAt aq1 (a3F.toNat*12) (sC s0_e s1_e (.slice A2_e n2_e d2_e) s3_e s4_e s5_e s6_e (.slice A7_e n7_e d7_e) s8_e s9_e s10_e s11_e)) [16] 17 (Qd) (fun zx HN hHeld=>?_)
    replace HW:=HN
    clear HN
    refine bK sJ.tab9 sJ.bits9 (fun HT_ HW_=>?_)
    refine pw 0 ?_
    refine tk 1 (some 34) (bm 17 3) rfl rfl hHeld ?_ (hy:=kG _ 2 6 _ Tryz.underlying26)
    refine pw 2 ?_
    refine pw 3 ?_
    refine tk 4 (some 37) (bm 17 31) rfl rfl hHeld ?_ (hy:=kG _ 2 6 _ Tryz.underlying26)
    refine pw 5 ?_
    refine pw 6 ?_
    refine pw 7 ?_
    refine pw 8 ?_
    refine tk 9 (some 42) (bm 17 1023) rfl rfl hHeld ?_ (hy:=DK (.int .i64 s11_e) (fun W h=>((fun W h=>h)) W h 11 _ rfl) Tryz.underlying3)
    refine pw 10 ?_
    refine pw 11 ?_
    refine pw 12 ?_
    generalize(if((31:Int)<_)then(31:Int)else _)=Tm
    refine pw 13 ?_
    refine pw 14 ?_
    refine pw 15 ?_
    refine la 16 (bm 17 131071) fun K hK=>?_
    refine jX (by rfl) ?_
    refine a2k HW (HW.out.g.1.s6) GQ.1 GQ.2 11 (by decide) ?_
    clear HW
    intro yh HW
    refine hK.out _ _ ?_
    clear hK K
    refine dn ?_
    clear HT_ HW_
    go_wp2_with (first|((with_reducible refine gd 49 rfl ?_);refine lE HW 2 0 ?_)|((with_reducible refine gt 31 4 rfl ?_);refine iC HW 0 ?_;clear HW;intro zo HW))
    refine kP HW 0 Tryz.underlying31 ?_
    exact⟨_,_,rfl,HW.out.ts⟩
   ·skip
    have GN:=decide_eq_false uy
    go_wp2_with (first|((with_reducible refine gd 49 rfl ?_);refine lE HW 2 0 ?_)|((with_reducible refine gt 31 4 rfl ?_);refine iC HW 0 ?_;clear HW;intro vP HW))
    refine kP HW 0 Tryz.underlying31 ?_
    exact⟨_,_,rfl,HW.out.ts⟩
 ·skip
  have Qp:(f0==8)=false:=beq_eq_false_iff_ne.mpr vR
  have a2V:(f0 != 8)=true:=bne_iff_ne.mpr vR
  go_wp2_with (first|((with_reducible refine gd 10 rfl ?_);refine lE HW 2 0 ?_)|((with_reducible refine gt 31 4 rfl ?_);refine iC HW 0 ?_;clear HW;intro uZ HW))
  refine kP HW 0 Tryz.underlying31 ?_
  exact⟨_,_,rfl,HW.out.ts⟩
def wU.T16:Bool×List (List Nat×List Nat):=(true,[([],[]),([],[]),([1],[1]),([],[]),([3],[3]),([],[]),([5],[5]),([],[]),([7],[7]),([],[]),([9],[9]),([],[]),([10,11],[10,11]),([6,8,12],[6,8,12]),([2,4,13],[2,4,13]),([14],[14]),([0,15],[0,15]),([16,15,0,1,2,3,4,5,6,7,8,9,10,11,12,13,14,15,16],[0,16])])
def wU.B16:List Nat:=[0,0,2,0,8,0,32,0,128,0,512,0,3584,8160,16382,32766,65535,131071]
theorem wU.tab16:jG .any (opsOf Tryz.f94 16)=wU.T16:=by kernel_rfl
theorem wU.bits16:fQ wU.T16.2 wU.B16=true:=by kernel_rfl
theorem Yo{b N C:Nat}{w:World}{M:Nat→Nat→Prop}{x0:Bool}{v1:Value}{x2:Int}{v3:Value}{x4:Int}{x5:ByteArray}{v6:Value}{x7 x8:Int}{v9:Value}{x10:Bool}{k:Int}(hw:TW b M w)(hb0:b≤w.heap.size)(E:ET b M w N C v1 x2 v3 x4 x5 v6 v9)(hN:N≤3000000)(hk:∀A n c,v6= .slice A n c→0≤k∧k<(n:Int)):Calls Tryz.prog 94 #[.agg (eC x0 v1 x2 v3 x4 x5 v6 x7 x8 v9 x10).toArray,.int .i64 k] w (Lv b M w N C 600):=by
 obtain⟨A1,n1,c1,A3,n3,c3,A6,n6,c6,A9,n9,c9,rfl,rfl,rfl,rfl,QC,QD⟩:=E.form4
 obtain⟨hk0,hk1⟩:=hk _ _ _ rfl
 have HW:ah (LW b NX M w [] (xW b N C (.slice A1 n1 c1) x2 (.slice A3 n3 c3) x4 x5 (.slice A6 n6 c6) (.slice A9 n9 c9)) M w):=⟨LW.start hw E (Mon.et _ _ _ _ _ _ _ _ _)⟩
 clear hw E
 go_enter Tryz.func94,Tryz.ntmps94
 go_upto_region 1 with(first|((with_reducible refine gd 2 rfl ?_);refine lbx (N:=2) (t:=31) HW (eC x0 (.slice A1 n1 c1) x2 (.slice A3 n3 c3) x4 x5 (.slice A6 n6 c6) x7 x8 (.slice A9 n9 c9) x10) ?_;clear HW;intro g2 pJ HW)|((with_reducible refine gd 4 rfl ?_);refine lbx (N:=4) (t:=31) HW zE ?_;clear HW;intro g4 wR HW))
 have sK:=(show 0≤k∧k<(n6:Int)from⟨by omega,by omega⟩)
 obtain⟨Tp,aqV,_,_⟩:=SL.has (HW.out.g.s6) (by omega)
 subst aqV
 obtain⟨s0_e,s1_e,u2_e,s3_e,s4_e,s5_e,s6_e,u7_e,s8_e,s9_e,s10_e,s11_e,Qd,vk⟩:=HW.out.rd39 (HW.out.g.s6) (i:=k) (by omega) (by omega)
 obtain⟨A2_e,n2_e,d2_e,A7_e,n7_e,d7_e,Ct,Cu⟩:=vk.form
 subst Ct Cu
 replace HW:=ah.mk (LW.fact (H:=Jf b (.slice A2_e n2_e d2_e) s3_e s6_e (.slice A7_e n7_e d7_e) s8_e) HW.out vk (Mon.st _ _ _ _ _))
 clear vk
 have YA:=eq_true sK.1
 have YB:=eq_true sK.2
 have aHu:=HW.out.g.2.s0
 have nP:=HW.out.g.2.s1
 have sZ:=HW.out.g.2.s3
 have aHv:=HW.out.g.2.s8
 go_upto_region 3 with(first|((with_reducible refine gd 12 rfl ?_);refine lls HW 1 6 _ Tryz.underlying26 ?_)|((with_reducible refine gd 15 rfl ?_);refine lrw (cs:=sC s0_e s1_e (.slice A2_e n2_e d2_e) s3_e s4_e s5_e s6_e (.slice A7_e n7_e d7_e) s8_e s9_e s10_e s11_e) Qd Tryz.underlying39 ?_)|((with_reducible refine gd 6 rfl ?_);refine lbx (N:=6) (t:=39) HW zS ?_;clear HW;intro g6 Ee HW)|((with_reducible refine gt 39 6 rfl ?_);refine iC HW 0 ?_;clear HW;intro zi HW))
 by_cases zy:s1_e=1
 ·skip
  subst zy
  by_cases c107:(n2_e:Int)=0
  ·skip
   have Jr:((n2_e:Int)==0)=true:=beq_iff_eq.mpr c107
   have adW:((n2_e:Int) != 0)=false:=bne_eq_false_iff_eq.mpr c107
   have aPt:=ah.mk c107
   clear c107
   have aqS:=HW.out.cell (v:=(.slice A2_e n2_e d2_e)) 0 2
   go_wp2_with (first|((with_reducible refine gd 17 rfl ?_);refine lls HW 0 1 _ Tryz.underlying3 ?_)|((with_reducible refine gd 29 rfl ?_);refine lE HW 2 0 ?_)|((with_reducible refine gt 31 4 rfl ?_);refine iC HW 1 ?_;clear HW;intro zn HW))
   refine LA HW 1 Tryz.underlying31 ?_
   exact⟨_,_,_,rfl,HW.out.ts,⟨_,_,_,_,_,_,_,_,_,_,_,rfl,(HW.out.g.1.up (by omega))⟩,(by first|omega|decide)⟩
  ·skip
   have Jr:((n2_e:Int)==0)=false:=beq_eq_false_iff_ne.mpr c107
   have adW:((n2_e:Int) != 0)=true:=bne_iff_ne.mpr c107
   have aPu:=HW.out.cell (v:=(.slice A2_e n2_e d2_e)) 0 2
   have aPv:=HW.out.cell (v:=(.bool s5_e)) 0 5
   go_upto_if 28 with(first|((with_reducible refine gd 17 rfl ?_);refine lls HW 0 1 _ Tryz.underlying3 ?_))
   cases s5_e with
   |true=>
    go_wp2_with (first|((with_reducible refine gd 29 rfl ?_);refine lE HW 2 0 ?_)|((with_reducible refine gt 31 4 rfl ?_);refine iC HW 1 ?_;clear HW;intro zx HW))
    refine LA HW 1 Tryz.underlying31 ?_
    exact⟨_,_,_,rfl,HW.out.ts,⟨_,_,_,_,_,_,_,_,_,_,_,rfl,(HW.out.g.1.up (by omega))⟩,(by first|omega|decide)⟩
   |false=>
    go_upto_if 33 with(first|((with_reducible refine gd 32 rfl ?_);refine lls HW 0 4 _ Tryz.underlying4 ?_))
    go_cut [7] (fun y7 wq=>∃(Mq:Nat→Nat→Prop)(A1q:Option Addr)(n1q:Nat)(c1q:Nat)(s5q:Bool)(oq:ByteArray),(y7= .string oq)∧(oq.size≤300)∧ah (LW b NX M w [⟨g6,sC s0_e 1 (.slice A2_e n2_e d2_e) s3_e true s5q s6_e (.slice A7_e n7_e d7_e) s8_e s9_e s10_e s11_e,39⟩,⟨g4,eC false (.slice none 0 0) 0 (.slice none 0 0) 0 (⟨#[]⟩:ByteArray) (.slice none 0 0) 0 0 (.slice none 0 0) false,31⟩,⟨g2,eC x0 (.slice A1q n1q c1q) x2 (.slice A3 n3 c3) x4 x5 (.slice (some ⟨Tp,0,none⟩) n6 c6) x7 x8 (.slice A9 n9 c9) x10,31⟩] (fun M w=>(((xW b N C (.slice A1 n1 c1) x2 (.slice A3 n3 c3) x4 x5 (.slice (some ⟨Tp,0,none⟩) n6 c6) (.slice A9 n9 c9)) M w)∧(Jf b (.slice A2_e n2_e d2_e) s3_e s6_e (.slice A7_e n7_e d7_e) s8_e) M w)∧(TVF b (.slice A1q n1q c1q) x2) M w) Mq wq))
    case first=>
     cases s4_e with
     |true=>
      go_wp2_with (fail)
      go_meet
      exact⟨_,_,_,_,_,_,rfl,(show _≤300 from by decide),⟨LW.less HW.out ⟨⟨(HW.out.g.1.up (by omega)),HW.out.g.2⟩,HW.out.g.1.t1⟩ (Mon.and (Mon.and (Mon.et _ _ _ _ _ _ _ _ _) (Mon.st _ _ _ _ _)) (Mon.tv _ _))⟩⟩
     |false=>
      go_wp2_with (first|((with_reducible refine gd 36 rfl ?_);refine qi HW 2 1 (tC _ _) Tryz.underlying25 ?_)|((with_reducible refine gd 38 rfl ?_);refine lls HW 0 2 _ Tryz.underlying23 ?_)|((with_reducible refine gq 96 rfl ?_);refine gl (some 39) Tryz.func96 #[(.agg (tC _ _).toArray),(.slice A2_e n2_e d2_e)] ?_;with_reducible refine(Yi _ _ _ HW.out.ts.tw (HW.out.hb hb0) HW.out.g.1.t1 HW.out.g.2.h2).mono ?_;rintro e yh ⟨aqW,aqX,aqY,aqZ,rfl,gT,aPw,hb⟩;refine⟨_,rfl,?_⟩;replace HW:=ah.mk (LW.fact (H:=TVF b (.slice aqW aqX aqY) x2) (HW.out.quiet hb) gT (Mon.tv _ _));clear gT hb)|((with_reducible refine gd 8 rfl ?_);refine lbx (N:=8) (t:=25) HW (tC (.slice none 0 0) 0) ?_;clear HW;intro g8 zo HW)|((with_reducible refine gt 25 8 rfl ?_);refine iC HW 0 ?_;clear HW;intro vP HW)|((with_reducible refine gd 42 rfl ?_);refine qi HW 0 0 (tC _ _) Tryz.underlying25 ?_)|((with_reducible refine gt 25 43 rfl ?_);refine ow HW 3 1 (.agg (tC _ _).toArray) (eC _ _ _ _ _ _ _ _ _ _ _) (tC _ _) ?_ (gF rfl);clear HW;intro uZ HW)|((with_reducible refine gt 4 44 rfl ?_);refine ow HW 1 4 (.bool true) (sC _ _ _ _ _ _ _ _ _ _ _ _) ([_]) ?_ (gF rfl);clear HW;intro Cq HW)|((with_reducible refine gd 46 rfl ?_);refine lls HW 1 3 _ Tryz.underlying9 ?_)|((with_reducible refine gt 4 48 rfl ?_);refine lsb HW 1 5 (fun q=>sC s0_e 1 (.slice A2_e n2_e d2_e) s3_e true q s6_e (.slice A7_e n7_e d7_e) s8_e s9_e s10_e s11_e) ?_;clear HW;intro aar zu HW)|((with_reducible refine gd 50 rfl ?_);refine lls HW 1 5 _ Tryz.underlying4 ?_)|((with_reducible refine gd 52 rfl ?_);refine lls HW 1 0 _ Tryz.underlying3 ?_)|((with_reducible refine gq 93 rfl ?_);refine gl (some 55) Tryz.func93 #[(.agg (fC _ _ _ _).toArray)] ?_;with_reducible refine(LB 1 aar s0_e aqZ (by omega)).mono ?_;rintro e Cr ⟨aPx,rfl,LQ,hb⟩;refine⟨_,rfl,?_⟩;replace LQ:=ah.mk LQ;replace HW:=ah.mk (HW.out.quiet hb);clear hb))
      go_meet
      exact⟨_,_,_,_,_,_,rfl,(show _≤300 from by have:=LQ.out;omega),⟨LW.less HW.out.drop ⟨⟨(HW.out.g.1.1.up (by omega)),HW.out.g.1.2⟩,HW.out.g.2⟩ (Mon.and (Mon.and (Mon.et _ _ _ _ _ _ _ _ _) (Mon.st _ _ _ _ _)) (Mon.tv _ _))⟩⟩
    case rest=>
     obtain⟨Mq,A1q,n1q,c1q,s5q,oq,rfl,aPy,HC⟩:=hcut
     try clear HW
     have HW:=HC
     clear HC
     go_upto_region 12 with(first|((with_reducible refine gd 57 rfl ?_);refine lls HW 0 3 _ Tryz.underlying9 ?_)|((with_reducible refine gd 60 rfl ?_);refine lls HW 0 6 _ Tryz.underlying3 ?_)|((with_reducible refine gd 64 rfl ?_);refine lls HW 0 10 _ Tryz.underlying3 ?_)|((with_reducible refine gd 67 rfl ?_);refine lls HW 2 7 _ Tryz.underlying3 ?_)|((with_reducible refine gd 68 rfl ?_);refine aEP _ _ _ ?_;intro H9 aAE aAF aAG))
     cases s5q with
     |true=>
      go_upto_if 75 with(first|((with_reducible refine gd 70 rfl ?_);refine lls HW 0 5 _ Tryz.underlying4 ?_))
      go_cut [7] (fun y7 wq=>∃(Mq:Nat→Nat→Prop)(x7q:Int)(s5z:Bool)(s6z:Int)(s10z:Int)(oz:ByteArray),(y7= .string oz)∧(oz.size≤600)∧ah (LW b NX M w [⟨g6,sC s0_e 1 (.slice A2_e n2_e d2_e) s3_e true s5z s6z (.slice A7_e n7_e d7_e) s8_e s9_e s10z s11_e,39⟩,⟨g4,eC false (.slice none 0 0) 0 (.slice none 0 0) 0 (⟨#[]⟩:ByteArray) (.slice none 0 0) 0 0 (.slice none 0 0) false,31⟩,⟨g2,eC x0 (.slice A1q n1q c1q) x2 (.slice A3 n3 c3) x4 x5 (.slice (some ⟨Tp,0,none⟩) n6 c6) x7q x8 (.slice A9 n9 c9) x10,31⟩] (fun M w=>((((xW b N C (.slice A1 n1 c1) x2 (.slice A3 n3 c3) x4 x5 (.slice (some ⟨Tp,0,none⟩) n6 c6) (.slice A9 n9 c9)) M w)∧(Jf b (.slice A2_e n2_e d2_e) s3_e s6_e (.slice A7_e n7_e d7_e) s8_e) M w)∧(TVF b (.slice A1q n1q c1q) x2) M w)∧(Jf b (.slice A2_e n2_e d2_e) s3_e s6z (.slice A7_e n7_e d7_e) s8_e) M w) Mq wq))
      case first=>
       go_wp2_with (fail)
       go_meet
       exact⟨_,_,_,_,_,_,rfl,(show _≤600 from by first|omega|decide),⟨LW.less HW.out ⟨⟨⟨(HW.out.g.1.1.up (by omega)),HW.out.g.1.2⟩,HW.out.g.2⟩,HW.out.g.1.2⟩ (Mon.and (Mon.and (Mon.and (Mon.et _ _ _ _ _ _ _ _ _) (Mon.st _ _ _ _ _)) (Mon.tv _ _)) (Mon.st _ _ _ _ _))⟩⟩
      case rest=>
       obtain⟨Mq,x7q,s5z,s6z,s10z,oz,rfl,aPz,HC⟩:=hcut
       try clear HW
       have HW:=HC
       clear HC
       go_upto_region 18 with(fail)
       cases x0 with
       |true=>
        have aPA:=HW.out.cell (v:=(.bool s5z)) 0 5
        go_upto_if 126 with(first|((with_reducible refine gd 122 rfl ?_);refine lls HW 2 0 _ Tryz.underlying4 ?_))
        cases s5z with
        |true=>
         go_wp2_with (first|((with_reducible refine gt 3 127 rfl ?_);refine ow HW 0 1 (.int .i64 2) (sC _ _ _ _ _ _ _ _ _ _ _ _) ([_]) ?_ (gF rfl);clear HW;intro Qh HW)|((with_reducible refine gd 129 rfl ?_);refine lls HW 2 6 _ Tryz.underlying26 ?_)|((with_reducible refine gd 131 rfl ?_);refine lS HW 0 0 ?_)|((with_reducible refine gt 39 132 rfl ?_);have hS_:ST b _ (.slice A2_e n2_e d2_e) s3_e s6z (.slice A7_e n7_e d7_e) s8_e:=HW.out.g.2;refine Yz HW (HW.out.g.1.1.1.s6) sK.1 sK.2 hS_ ?_;clear HW;intro aaR HW;clear hS_)|((with_reducible refine gd 133 rfl ?_);refine lE HW 2 0 ?_)|((with_reducible refine gt 31 4 rfl ?_);refine iC HW 1 ?_;clear HW;intro a2H HW))
         refine LA HW 1 Tryz.underlying31 ?_
         exact⟨_,_,_,rfl,HW.out.ts,⟨_,_,_,_,_,_,_,_,_,_,_,rfl,⟨HW.out.g.1.2,HW.out.g.1.1.1.t3,HW.out.g.1.1.1.c5,(HW.out.g.1.1.1.s6.mono (N':=N) (by omega)),(HW.out.g.1.1.1.s9.mono (N':=N) (by omega))⟩⟩,(by first|omega|decide)⟩
        |false=>
         go_wp2_with (first|((with_reducible refine gd 129 rfl ?_);refine lls HW 2 6 _ Tryz.underlying26 ?_)|((with_reducible refine gd 131 rfl ?_);refine lS HW 0 0 ?_)|((with_reducible refine gt 39 132 rfl ?_);have hS_:ST b _ (.slice A2_e n2_e d2_e) s3_e s6z (.slice A7_e n7_e d7_e) s8_e:=HW.out.g.2;refine Yz HW (HW.out.g.1.1.1.s6) sK.1 sK.2 hS_ ?_;clear HW;intro a2I HW;clear hS_)|((with_reducible refine gd 133 rfl ?_);refine lE HW 2 0 ?_)|((with_reducible refine gt 31 4 rfl ?_);refine iC HW 1 ?_;clear HW;intro aaN HW))
         refine LA HW 1 Tryz.underlying31 ?_
         exact⟨_,_,_,rfl,HW.out.ts,⟨_,_,_,_,_,_,_,_,_,_,_,rfl,⟨HW.out.g.1.2,HW.out.g.1.1.1.t3,HW.out.g.1.1.1.c5,(HW.out.g.1.1.1.s6.mono (N':=N) (by omega)),(HW.out.g.1.1.1.s9.mono (N':=N) (by omega))⟩⟩,(by first|omega|decide)⟩
       |false=>
        go_wp2_with (first|((with_reducible refine gd 122 rfl ?_);refine lls HW 2 0 _ Tryz.underlying4 ?_)|((with_reducible refine gd 129 rfl ?_);refine lls HW 2 6 _ Tryz.underlying26 ?_)|((with_reducible refine gd 131 rfl ?_);refine lS HW 0 0 ?_)|((with_reducible refine gt 39 132 rfl ?_);have hS_:ST b _ (.slice A2_e n2_e d2_e) s3_e s6z (.slice A7_e n7_e d7_e) s8_e:=HW.out.g.2;refine Yz HW (HW.out.g.1.1.1.s6) sK.1 sK.2 hS_ ?_;clear HW;intro a2J HW;clear hS_)|((with_reducible refine gd 133 rfl ?_);refine lE HW 2 0 ?_)|((with_reducible refine gt 31 4 rfl ?_);refine iC HW 1 ?_;clear HW;intro ahY HW))
        refine LA HW 1 Tryz.underlying31 ?_
        exact⟨_,_,_,rfl,HW.out.ts,⟨_,_,_,_,_,_,_,_,_,_,_,rfl,⟨HW.out.g.1.2,HW.out.g.1.1.1.t3,HW.out.g.1.1.1.c5,(HW.out.g.1.1.1.s6.mono (N':=N) (by omega)),(HW.out.g.1.1.1.s9.mono (N':=N) (by omega))⟩⟩,(by first|omega|decide)⟩
     |false=>
      go_upto_if 75 with(first|((with_reducible refine gd 70 rfl ?_);refine lls HW 0 5 _ Tryz.underlying4 ?_))
      go_cut [7] (fun y7 wq=>∃(Mq:Nat→Nat→Prop)(x7q:Int)(s5z:Bool)(s6z:Int)(s10z:Int)(oz:ByteArray),(y7= .string oz)∧(oz.size≤600)∧ah (LW b NX M w [⟨g6,sC s0_e 1 (.slice A2_e n2_e d2_e) s3_e true s5z s6z (.slice A7_e n7_e d7_e) s8_e s9_e s10z s11_e,39⟩,⟨g4,eC false (.slice none 0 0) 0 (.slice none 0 0) 0 (⟨#[]⟩:ByteArray) (.slice none 0 0) 0 0 (.slice none 0 0) false,31⟩,⟨g2,eC x0 (.slice A1q n1q c1q) x2 (.slice A3 n3 c3) x4 x5 (.slice (some ⟨Tp,0,none⟩) n6 c6) x7q x8 (.slice A9 n9 c9) x10,31⟩] (fun M w=>((((xW b N C (.slice A1 n1 c1) x2 (.slice A3 n3 c3) x4 x5 (.slice (some ⟨Tp,0,none⟩) n6 c6) (.slice A9 n9 c9)) M w)∧(Jf b (.slice A2_e n2_e d2_e) s3_e s6_e (.slice A7_e n7_e d7_e) s8_e) M w)∧(TVF b (.slice A1q n1q c1q) x2) M w)∧(Jf b (.slice A2_e n2_e d2_e) s3_e s6z (.slice A7_e n7_e d7_e) s8_e) M w) Mq wq))
      case first=>
       by_cases c138:H9>0
       ·skip
        have ar0:=decide_eq_true c138
        go_upto_region 16 with(first|((with_reducible refine gd 78 rfl ?_);refine lls HW 0 10 _ Tryz.underlying3 ?_)|((with_reducible refine gt 3 82 rfl ?_);refine lsi HW 0 10 (fun q=>sC s0_e 1 (.slice A2_e n2_e d2_e) s3_e true false s6_e (.slice A7_e n7_e d7_e) s8_e s9_e q s11_e) ?_;clear HW;intro aHw aqF HW)|((with_reducible refine gd 85 rfl ?_);refine lls HW 2 7 _ Tryz.underlying3 ?_)|((with_reducible refine gt 3 89 rfl ?_);refine lsi HW 2 7 (fun q=>eC x0 (.slice A1q n1q c1q) x2 (.slice A3 n3 c3) x4 x5 (.slice (some ⟨Tp,0,none⟩) n6 c6) q x8 (.slice A9 n9 c9) x10) ?_;clear HW;intro aTD ahv HW)|((with_reducible refine gd 91 rfl ?_);refine lls HW 0 6 _ Tryz.underlying3 ?_)|((with_reducible refine gd 95 rfl ?_);refine lls HW 0 3 _ Tryz.underlying9 ?_)|((with_reducible refine gt 4 98 rfl ?_);refine lsb HW 0 5 (fun q=>sC s0_e 1 (.slice A2_e n2_e d2_e) s3_e true q s6_e (.slice A7_e n7_e d7_e) s8_e s9_e aHw s11_e) ?_;clear HW;intro aHx aqG HW))
        have ar1:=dL ((s3_e.size:Int)-s6_e) (by omega) (by omega)
        have ar2:=dL (s6_e+H9) (by omega) (by omega)
        have ar3:0≤s6_e+H9:=by omega
        have ar4:s6_e+H9≤(s3_e.size:Int):=by omega
        have p1_:=eq_true aHu
        have p2_:=eq_true (show s6_e≤wrap64 (s6_e+H9) by omega)
        have p3_:=eq_true (show wrap64 (s6_e+H9)≤(s3_e.size:Int) by omega)
        have aTE:(s3_e.extract s6_e.toNat (wrap64 (s6_e+H9)).toNat).size≤100:=by rw[ByteArray.size_extract];omega
        clear ar1 ar2
        refine mY HW (fun _=>True) [15] 18 (trivial) (fun a2L HN hHeld=>?_)
        replace HW:=HN
        clear HN
        refine bK wU.tab16 wU.bits16 (fun HT_ HW_=>?_)
        refine pw 1 ?_
        refine tk 2 (some 101) (bm 18 6) rfl rfl hHeld ?_ (hy:=kG _ 0 5 _ Tryz.underlying4)
        refine pw 3 ?_
        refine tk 4 (some 103) (bm 18 30) rfl rfl hHeld ?_ (hy:=kG _ 0 0 _ Tryz.underlying3)
        refine pw 5 ?_
        refine tk 6 (some 105) (bm 18 126) rfl rfl hHeld ?_ (hy:=kG _ 0 3 _ Tryz.underlying9)
        refine pw 7 ?_
        refine tk 8 (some 107) (bm 18 510) rfl rfl hHeld ?_ (hy:=kG _ 0 6 _ Tryz.underlying3)
        refine pw 9 ?_
        refine tk 10 (some 109) (bm 18 2046) rfl rfl hHeld ?_ (hy:=kG _ 0 6 _ Tryz.underlying3)
        refine pw 11 ?_
        refine pw 12 ?_
        refine pw 13 ?_
        refine pw 14 ?_
        refine pw 0 ?_
        refine la 15 (bm 18 65535) fun K hK=>?_
        refine gs Tryz.func93 #[(.agg (fC _ _ _ _).toArray)] ?_
        with_reducible refine(LB 0 aHx s0_e (s3_e.extract s6_e.toNat (wrap64 (s6_e+H9)).toNat) (by omega)).mono ?_
        rintro e aaz ⟨adX,rfl,Ff,hb⟩
        refine⟨_,rfl,?_⟩
        replace Ff:=ah.mk Ff
        replace HW:=ah.mk (HW.out.quiet hb)
        clear hb
        refine hK.out _ _ ?_
        clear hK K
        refine nm ?_
        have I9:(9223372036854775807<oq.size+adX.size)=False:=eq_false (by have:=Ff.out;omega)
        have Yp:(oq++adX).size≤600:=by rw[aK];have:=Ff.out;omega
        refine pw 16 ?_
        refine pw 17 ?_
        refine dn ?_
        clear HT_ HW_
        go_wp2_with (first|((with_reducible refine gd 117 rfl ?_);refine lls HW 0 6 _ Tryz.underlying3 ?_)|((with_reducible refine gt 3 120 rfl ?_);refine ow HW 0 6 (.int .i64 (s6_e+H9)) (sC _ _ _ _ _ _ _ _ _ _ _ _) ([_]) ?_ (gF rfl);clear HW;intro ahy HW))
        go_meet
        exact⟨_,_,_,_,_,_,rfl,(show _≤600 from by first|omega|decide),⟨LW.less HW.out ⟨⟨⟨(HW.out.g.1.1.up (by omega)),HW.out.g.1.2⟩,HW.out.g.2⟩,⟨HW.out.g.1.2.h2,HW.out.g.1.2.h7,ar3,ar4,sZ,aHv⟩⟩ (Mon.and (Mon.and (Mon.and (Mon.et _ _ _ _ _ _ _ _ _) (Mon.st _ _ _ _ _)) (Mon.tv _ _)) (Mon.st _ _ _ _ _))⟩⟩
       ·skip
        have ar0:=decide_eq_false c138
        go_wp2_with (fail)
        go_meet
        exact⟨_,_,_,_,_,_,rfl,(show _≤600 from by first|omega|decide),⟨LW.less HW.out ⟨⟨⟨(HW.out.g.1.1.up (by omega)),HW.out.g.1.2⟩,HW.out.g.2⟩,HW.out.g.1.2⟩ (Mon.and (Mon.and (Mon.and (Mon.et _ _ _ _ _ _ _ _ _) (Mon.st _ _ _ _ _)) (Mon.tv _ _)) (Mon.st _ _ _ _ _))⟩⟩
      case rest=>
       obtain⟨Mq,x7q,s5z,s6z,s10z,oz,rfl,aPB,HC⟩:=hcut
       try clear HW
       have HW:=HC
       clear HC
       go_upto_region 18 with(fail)
       cases x0 with
       |true=>
        have aPC:=HW.out.cell (v:=(.bool s5z)) 0 5
        go_upto_if 126 with(first|((with_reducible refine gd 122 rfl ?_);refine lls HW 2 0 _ Tryz.underlying4 ?_))
        cases s5z with
        |true=>
         go_wp2_with (first|((with_reducible refine gt 3 127 rfl ?_);refine ow HW 0 1 (.int .i64 2) (sC _ _ _ _ _ _ _ _ _ _ _ _) ([_]) ?_ (gF rfl);clear HW;intro a2P HW)|((with_reducible refine gd 129 rfl ?_);refine lls HW 2 6 _ Tryz.underlying26 ?_)|((with_reducible refine gd 131 rfl ?_);refine lS HW 0 0 ?_)|((with_reducible refine gt 39 132 rfl ?_);have hS_:ST b _ (.slice A2_e n2_e d2_e) s3_e s6z (.slice A7_e n7_e d7_e) s8_e:=HW.out.g.2;refine Yz HW (HW.out.g.1.1.1.s6) sK.1 sK.2 hS_ ?_;clear HW;intro Yj HW;clear hS_)|((with_reducible refine gd 133 rfl ?_);refine lE HW 2 0 ?_)|((with_reducible refine gt 31 4 rfl ?_);refine iC HW 1 ?_;clear HW;intro ai8 HW))
         refine LA HW 1 Tryz.underlying31 ?_
         exact⟨_,_,_,rfl,HW.out.ts,⟨_,_,_,_,_,_,_,_,_,_,_,rfl,⟨HW.out.g.1.2,HW.out.g.1.1.1.t3,HW.out.g.1.1.1.c5,(HW.out.g.1.1.1.s6.mono (N':=N) (by omega)),(HW.out.g.1.1.1.s9.mono (N':=N) (by omega))⟩⟩,(by first|omega|decide)⟩
        |false=>
         go_wp2_with (first|((with_reducible refine gd 129 rfl ?_);refine lls HW 2 6 _ Tryz.underlying26 ?_)|((with_reducible refine gd 131 rfl ?_);refine lS HW 0 0 ?_)|((with_reducible refine gt 39 132 rfl ?_);have hS_:ST b _ (.slice A2_e n2_e d2_e) s3_e s6z (.slice A7_e n7_e d7_e) s8_e:=HW.out.g.2;refine Yz HW (HW.out.g.1.1.1.s6) sK.1 sK.2 hS_ ?_;clear HW;intro aaD HW;clear hS_)|((with_reducible refine gd 133 rfl ?_);refine lE HW 2 0 ?_)|((with_reducible refine gt 31 4 rfl ?_);refine iC HW 1 ?_;clear HW;intro aaO HW))
         refine LA HW 1 Tryz.underlying31 ?_
         exact⟨_,_,_,rfl,HW.out.ts,⟨_,_,_,_,_,_,_,_,_,_,_,rfl,⟨HW.out.g.1.2,HW.out.g.1.1.1.t3,HW.out.g.1.1.1.c5,(HW.out.g.1.1.1.s6.mono (N':=N) (by omega)),(HW.out.g.1.1.1.s9.mono (N':=N) (by omega))⟩⟩,(by first|omega|decide)⟩
       |false=>
        go_wp2_with (first|((with_reducible refine gd 122 rfl ?_);refine lls HW 2 0 _ Tryz.underlying4 ?_)|((with_reducible refine gd 129 rfl ?_);refine lls HW 2 6 _ Tryz.underlying26 ?_)|((with_reducible refine gd 131 rfl ?_);refine lS HW 0 0 ?_)|((with_reducible refine gt 39 132 rfl ?_);have hS_:ST b _ (.slice A2_e n2_e d2_e) s3_e s6z (.slice A7_e n7_e d7_e) s8_e:=HW.out.g.2;refine Yz HW (HW.out.g.1.1.1.s6) sK.1 sK.2 hS_ ?_;clear HW;intro aaE HW;clear hS_)|((with_reducible refine gd 133 rfl ?_);refine lE HW 2 0 ?_)|((with_reducible refine gt 31 4 rfl ?_);refine iC HW 1 ?_;clear HW;intro aGy HW))
        refine LA HW 1 Tryz.underlying31 ?_
        exact⟨_,_,_,rfl,HW.out.ts,⟨_,_,_,_,_,_,_,_,_,_,_,rfl,⟨HW.out.g.1.2,HW.out.g.1.1.1.t3,HW.out.g.1.1.1.c5,(HW.out.g.1.1.1.s6.mono (N':=N) (by omega)),(HW.out.g.1.1.1.s9.mono (N':=N) (by omega))⟩⟩,(by first|omega|decide)⟩
 ·skip
  have Ql:(s1_e==1)=false:=beq_eq_false_iff_ne.mpr zy
  have aqU:(s1_e != 1)=true:=bne_iff_ne.mpr zy
  go_wp2_with (first|((with_reducible refine gd 17 rfl ?_);refine lls HW 0 1 _ Tryz.underlying3 ?_)|((with_reducible refine gd 29 rfl ?_);refine lE HW 2 0 ?_)|((with_reducible refine gt 31 4 rfl ?_);refine iC HW 1 ?_;clear HW;intro aqh HW))
  refine LA HW 1 Tryz.underlying31 ?_
  exact⟨_,_,_,rfl,HW.out.ts,⟨_,_,_,_,_,_,_,_,_,_,_,rfl,(HW.out.g.1.up (by omega))⟩,(by first|omega|decide)⟩
end Go.Proofs.YtokblgdgpnakpaaGreat.PFnEndLess
