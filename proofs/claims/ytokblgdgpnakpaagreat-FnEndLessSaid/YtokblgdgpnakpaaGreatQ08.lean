/- FnEndLess holds: part 8 of a proof that the given program meets it (printed texts and walks of our own, made short by a program). No condition. -/
import Derived.Test.YtokblgdgpnakpaaGreatQ07
set_option linter.unusedVariables false
set_option linter.unusedSimpArgs false
set_option maxHeartbeats 8000000
set_option maxRecDepth 100000
namespace Go.Proofs.YtokblgdgpnakpaaGreat.PFnEndLess
open Go.RowKit Go.Proofs.YtokblgdgpnakpaaGreatW.PrintWords Go.Proofs.YtokblgdgpnakpaaGreatW.PrintLast Go.Proofs.YtokblgdgpnakpaaGreatW.PrintMore Go.Proofs.YtokblgdgpnakpaaGreat.Lm
open Go.Proofs.YtokblgdgpnakpaaGreat.Pure
attribute [local go_sem] bF bD cZ d9 aY aX bH bI
theorem Sz{b N C:Nat}{w:World}{M:Nat→Nat→Prop}{x0:Bool}{v1:Value}{x2:Int}{v3:Value}{x4:Int}{x5:ByteArray}{v6:Value}{x7 x8:Int}{v9:Value}{x10:Bool}{f0:Int}{f1:Bool}{f2:Int}{f3:ByteArray}(hw:TW b M w)(hb0:b≤w.heap.size)(E:ET b M w N C v1 x2 v3 x4 x5 v6 v9)(hN:N≤3000000)(hf:1≤f3.size):Calls Tryz.prog 101 #[.agg (eC x0 v1 x2 v3 x4 x5 v6 x7 x8 v9 x10).toArray,.agg (fC f0 f1 f2 f3).toArray] w (EPost b M w N C):=by
 obtain⟨A1,n1,c1,A3,n3,c3,A6,n6,c6,A9,n9,c9,rfl,rfl,rfl,rfl,Qg,Qh⟩:=E.form4
 have hf0:0<f3.size:=by omega
 have HW:ah (LW b NX M w [] (xw b N C (.slice A1 n1 c1) x2 (.slice A3 n3 c3) x4 x5 (.slice A6 n6 c6) (.slice A9 n9 c9)) M w):=⟨LW.start hw E (Mon.et _ _ _ _ _ _ _ _ _)⟩
 clear hw E
 go_enter Tryz.func101,Tryz.ntmps101
 go_upto_if 14 with(first|((with_reducible refine gd 2 rfl ?_);refine lbx (N:=2) (t:=31) HW (eC x0 (.slice A1 n1 c1) x2 (.slice A3 n3 c3) x4 x5 (.slice A6 n6 c6) x7 x8 (.slice A9 n9 c9) x10) ?_;clear HW;intro g2 pF HW)|((with_reducible refine gd 3 rfl ?_);refine lbx (N:=3) (t:=42) HW (fC f0 f1 f2 f3) ?_;clear HW;intro g3 xG HW)|((with_reducible refine gd 4 rfl ?_);refine lbx (N:=4) (t:=31) HW zE ?_;clear HW;intro g4 AX HW)|((with_reducible refine gd 9 rfl ?_);refine lls HW 1 3 (.string f3) Tryz.underlying9 ?_)|((with_reducible refine gd 13 rfl ?_);refine lls HW 1 2 (.int .i64 f2) Tryz.underlying3 ?_))
 by_cases vw:f2=0
 ·skip
  subst vw
  go_upto_region 4 with(first|((with_reducible refine gd 17 rfl ?_);refine lls HW 2 7 (.int .i64 x7) Tryz.underlying3 ?_)|((with_reducible refine aj (t:=3) (p:=21) rfl ?_);refine lsi HW 2 7 (fun q=>eC x0 (.slice A1 n1 c1) x2 (.slice A3 n3 c3) x4 x5 (.slice A6 n6 c6) q x8 (.slice A9 n9 c9) x10) ?_;intro a2E xH HN;(try simp only[List.set_cons_zero,List.set_cons_succ]at HN);replace HW:=HN;clear HN))
  cases x10 with
  |true=>
   go_wp2_with (first|((with_reducible refine gd 23 rfl ?_);refine lls HW 2 10 (.bool true) Tryz.underlying4 ?_)|((with_reducible refine aj (t:=4) (p:=30) rfl ?_);refine mP HW 2 10 (.bool true) (eC _ _ _ _ _ _ _ _ _ _ _) ([_]) ?_ (fP rfl);clear HW;intro vZ HW;(try simp only[List.set_cons_zero,List.set_cons_succ]at HW))|((with_reducible refine gd 33 rfl ?_);refine lls HW 2 7 (.int .i64 a2E) Tryz.underlying3 ?_)|((with_reducible refine gd 34 rfl ?_);refine RD _ _ ?_;intro aFI azv azw azx)|((with_reducible refine aj (t:=3) (p:=36) rfl ?_);refine mP HW 2 7 (.int .i64 aFI) (eC _ _ _ _ _ _ _ _ _ _ _) ([_]) ?_ (fP rfl);clear HW;intro AQ HW;(try simp only[List.set_cons_zero,List.set_cons_succ]at HW))|((with_reducible refine gd 37 rfl ?_);refine lE HW 2 0 ?_)|((with_reducible refine aj (t:=31) (p:=4) rfl ?_);refine iA HW 0 ?_;clear HW;intro Fz HW;(try simp only[List.set_cons_zero,List.set_cons_succ]at HW)))
   refine bodyPost_ret (results_cell_row rfl _ _ g4 31 (eC _ _ _ _ _ _ _ _ _ _ _).toArray (0,0) _ rfl (HW.out.at 0 rfl) Tryz.underlying31 rfl (by kernel_rfl)) rfl ?_
   exact⟨_,_,rfl,HW.out.ts,⟨_,_,_,_,_,_,_,_,_,_,_,rfl,(HW.out.g.up (by omega))⟩⟩
  |false=>
   have adm:=HW.out.cell (v:=(.int .i64 a2E)) 2 7
   go_wp2_with (first|((with_reducible refine gd 23 rfl ?_);refine lls HW 2 10 (.bool false) Tryz.underlying4 ?_)|((with_reducible refine aj (t:=4) (p:=30) rfl ?_);refine lsb HW 2 10 (fun q=>eC x0 (.slice A1 n1 c1) x2 (.slice A3 n3 c3) x4 x5 (.slice A6 n6 c6) a2E x8 (.slice A9 n9 c9) q) ?_;intro aSx AV HN;(try simp only[List.set_cons_zero,List.set_cons_succ]at HN);replace HW:=HN;clear HN)|((with_reducible refine gd 33 rfl ?_);refine lls HW 2 7 (.int .i64 a2E) Tryz.underlying3 ?_)|((with_reducible refine gd 34 rfl ?_);refine RD _ _ ?_;intro aFJ azy azz azA)|((with_reducible refine aj (t:=3) (p:=36) rfl ?_);refine mP HW 2 7 (.int .i64 aFJ) (eC _ _ _ _ _ _ _ _ _ _ _) ([_]) ?_ (fP rfl);clear HW;intro KO HW;(try simp only[List.set_cons_zero,List.set_cons_succ]at HW))|((with_reducible refine gd 37 rfl ?_);refine lE HW 2 0 ?_)|((with_reducible refine aj (t:=31) (p:=4) rfl ?_);refine iA HW 0 ?_;clear HW;intro yO HW;(try simp only[List.set_cons_zero,List.set_cons_succ]at HW)))
   refine bodyPost_ret (results_cell_row rfl _ _ g4 31 (eC _ _ _ _ _ _ _ _ _ _ _).toArray (0,0) _ rfl (HW.out.at 0 rfl) Tryz.underlying31 rfl (by kernel_rfl)) rfl ?_
   exact⟨_,_,rfl,HW.out.ts,⟨_,_,_,_,_,_,_,_,_,_,_,rfl,(HW.out.g.up (by omega))⟩⟩
 ·skip
  have Q0:(f2==0)=false:=beq_eq_false_iff_ne.mpr vw
  have a2H:(f2 != 0)=true:=bne_iff_ne.mpr vw
  go_upto_if 43 with(first|((with_reducible refine gd 38 rfl ?_);refine lE HW 2 0 ?_)|((with_reducible refine gd 40 rfl ?_);refine lls HW 1 2 (.int .i64 f2) Tryz.underlying3 ?_)|((with_reducible refine gq 49 rfl ?_);refine gl (some 41) Tryz.func49 #[(.agg (eC _ _ _ _ _ _ _ _ _ _ _).toArray),(.int .i64 f2)] ?_;with_reducible refine(Ig f2 HW.out.ts.tw (N:=N) (C:=C) (HW.out.g.up (by omega)) (by omega)).mono ?_;rintro e yM ⟨aau,rfl,aFK,aFL,hb⟩;refine⟨_,rfl,?_⟩;replace HW:=ah.mk (HW.out.quiet hb);clear hb))
  by_cases c119:aau<0
  ·skip
   have WG:=decide_eq_true c119
   go_wp2_with (first|((with_reducible refine aj (t:=4) (p:=44) rfl ?_);refine mP HW 2 10 (.bool true) (eC _ _ _ _ _ _ _ _ _ _ _) ([_]) ?_ (fP rfl);clear HW;intro Cc HW;(try simp only[List.set_cons_zero,List.set_cons_succ]at HW))|((with_reducible refine gd 45 rfl ?_);refine lE HW 2 0 ?_)|((with_reducible refine aj (t:=31) (p:=4) rfl ?_);refine iA HW 0 ?_;clear HW;intro yN HW;(try simp only[List.set_cons_zero,List.set_cons_succ]at HW)))
   refine bodyPost_ret (results_cell_row rfl _ _ g4 31 (eC _ _ _ _ _ _ _ _ _ _ _).toArray (0,0) _ rfl (HW.out.at 0 rfl) Tryz.underlying31 rfl (by kernel_rfl)) rfl ?_
   exact⟨_,_,rfl,HW.out.ts,⟨_,_,_,_,_,_,_,_,_,_,_,rfl,(HW.out.g.up (by omega))⟩⟩
  ·skip
   have WG:=decide_eq_false c119
   go_upto_region 11 with(fail)
   have Iy:=(show 0≤aau∧aau<(n6:Int)from⟨by omega,by omega⟩)
   obtain⟨aav,aq9,_,_⟩:=SL.has (HW.out.g.s6) (by omega)
   subst aq9
   obtain⟨s0_e,s1_e,u2_e,s3_e,s4_e,s5_e,s6_e,u7_e,s8_e,s9_e,s10_e,s11_e,PI,uO⟩:=HW.out.rd39 (HW.out.g.s6) (i:=aau) (by omega) (by omega)
   obtain⟨A2_e,n2_e,d2_e,A7_e,n7_e,d7_e,yS,Cf⟩:=uO.form
   subst yS Cf
   replace HW:=ah.mk (LW.fact (H:=Ih b (.slice A2_e n2_e d2_e) s3_e s6_e (.slice A7_e n7_e d7_e) s8_e) HW.out uO (Mon.st _ _ _ _ _))
   clear uO
   have Yt:=eq_true Iy.1
   have Yu:=eq_true Iy.2
   go_upto_region 13 with(first|((with_reducible refine gd 47 rfl ?_);refine lls HW 2 6 (.slice (some ⟨aav,0,none⟩) n6 c6) Tryz.underlying26 ?_)|((with_reducible refine gd 50 rfl ?_);refine lrw (cs:=sC s0_e s1_e (.slice A2_e n2_e d2_e) s3_e s4_e s5_e s6_e (.slice A7_e n7_e d7_e) s8_e s9_e s10_e s11_e) PI Tryz.underlying39 ?_)|((with_reducible refine gd 7 rfl ?_);refine lbx (N:=7) (t:=39) HW zS ?_;clear HW;intro g7 Gu HW)|((with_reducible refine aj (t:=39) (p:=7) rfl ?_);refine iA HW 0 ?_;clear HW;intro Fv HW;(try simp only[List.set_cons_zero,List.set_cons_succ]at HW))|((with_reducible refine gd 53 rfl ?_);refine lls HW 0 10 (.int .i64 s10_e) Tryz.underlying3 ?_)|((with_reducible refine aj (t:=3) (p:=57) rfl ?_);refine lsi HW 0 10 (fun q=>sC s0_e s1_e (.slice A2_e n2_e d2_e) s3_e s4_e s5_e s6_e (.slice A7_e n7_e d7_e) s8_e s9_e q s11_e) ?_;intro Ch KI HN;(try simp only[List.set_cons_zero,List.set_cons_succ]at HN);replace HW:=HN;clear HN))
   cases x10 with
   |true=>
    go_wp2_with (first|((with_reducible refine gd 59 rfl ?_);refine lls HW 3 10 (.bool true) Tryz.underlying4 ?_)|((with_reducible refine aj (t:=4) (p:=66) rfl ?_);refine mP HW 3 10 (.bool true) (eC _ _ _ _ _ _ _ _ _ _ _) ([_]) ?_ (fP rfl);clear HW;intro PE HW;(try simp only[List.set_cons_zero,List.set_cons_succ]at HW))|((with_reducible refine gd 69 rfl ?_);refine lls HW 0 10 (.int .i64 Ch) Tryz.underlying3 ?_)|((with_reducible refine gd 70 rfl ?_);refine RD _ _ ?_;intro aFM azB azC azD)|((with_reducible refine aj (t:=3) (p:=72) rfl ?_);refine mP HW 0 10 (.int .i64 aFM) (sC _ _ _ _ _ _ _ _ _ _ _ _) ([_]) ?_ (fP rfl);clear HW;intro Sd HW;(try simp only[List.set_cons_zero,List.set_cons_succ]at HW))|((with_reducible refine gd 74 rfl ?_);refine lls HW 3 6 (.slice (some ⟨aav,0,none⟩) n6 c6) Tryz.underlying26 ?_)|((with_reducible refine gd 76 rfl ?_);refine lS HW 0 0 ?_)|((with_reducible refine aj (t:=39) (p:=77) rfl ?_);have hS_:ST b _ (.slice A2_e n2_e d2_e) s3_e s6_e (.slice A7_e n7_e d7_e) s8_e:=HW.out.g.2;refine Yr HW (HW.out.g.1.s6) Iy.1 Iy.2 hS_ ?_;clear HW;intro aar HW;(try simp only[List.set_cons_zero,List.set_cons_succ]at HW);clear hS_)|((with_reducible refine gd 78 rfl ?_);refine lE HW 3 0 ?_)|((with_reducible refine aj (t:=31) (p:=4) rfl ?_);refine iA HW 1 ?_;clear HW;intro PO HW;(try simp only[List.set_cons_zero,List.set_cons_succ]at HW)))
    refine bodyPost_ret (results_cell_row rfl _ _ g4 31 (eC _ _ _ _ _ _ _ _ _ _ _).toArray (0,0) _ rfl (HW.out.at 1 rfl) Tryz.underlying31 rfl (by kernel_rfl)) rfl ?_
    exact⟨_,_,rfl,HW.out.ts,⟨_,_,_,_,_,_,_,_,_,_,_,rfl,(HW.out.g.1.up (by omega))⟩⟩
   |false=>
    have aOs:=HW.out.cell (v:=(.int .i64 Ch)) 0 10
    go_wp2_with (first|((with_reducible refine gd 59 rfl ?_);refine lls HW 3 10 (.bool false) Tryz.underlying4 ?_)|((with_reducible refine aj (t:=4) (p:=66) rfl ?_);refine lsb HW 3 10 (fun q=>eC x0 (.slice A1 n1 c1) x2 (.slice A3 n3 c3) x4 x5 (.slice (some ⟨aav,0,none⟩) n6 c6) x7 x8 (.slice A9 n9 c9) q) ?_;intro apX a2z HN;(try simp only[List.set_cons_zero,List.set_cons_succ]at HN);replace HW:=HN;clear HN)|((with_reducible refine gd 69 rfl ?_);refine lls HW 0 10 (.int .i64 Ch) Tryz.underlying3 ?_)|((with_reducible refine gd 70 rfl ?_);refine RD _ _ ?_;intro ahH azE azF azG)|((with_reducible refine aj (t:=3) (p:=72) rfl ?_);refine mP HW 0 10 (.int .i64 ahH) (sC _ _ _ _ _ _ _ _ _ _ _ _) ([_]) ?_ (fP rfl);clear HW;intro a2A HW;(try simp only[List.set_cons_zero,List.set_cons_succ]at HW))|((with_reducible refine gd 74 rfl ?_);refine lls HW 3 6 (.slice (some ⟨aav,0,none⟩) n6 c6) Tryz.underlying26 ?_)|((with_reducible refine gd 76 rfl ?_);refine lS HW 0 0 ?_)|((with_reducible refine aj (t:=39) (p:=77) rfl ?_);have hS_:ST b _ (.slice A2_e n2_e d2_e) s3_e s6_e (.slice A7_e n7_e d7_e) s8_e:=HW.out.g.2;refine Yr HW (HW.out.g.1.s6) Iy.1 Iy.2 hS_ ?_;clear HW;intro aq0 HW;(try simp only[List.set_cons_zero,List.set_cons_succ]at HW);clear hS_)|((with_reducible refine gd 78 rfl ?_);refine lE HW 3 0 ?_)|((with_reducible refine aj (t:=31) (p:=4) rfl ?_);refine iA HW 1 ?_;clear HW;intro aEn HW;(try simp only[List.set_cons_zero,List.set_cons_succ]at HW)))
    refine bodyPost_ret (results_cell_row rfl _ _ g4 31 (eC _ _ _ _ _ _ _ _ _ _ _).toArray (0,0) _ rfl (HW.out.at 1 rfl) Tryz.underlying31 rfl (by kernel_rfl)) rfl ?_
    exact⟨_,_,rfl,HW.out.ts,⟨_,_,_,_,_,_,_,_,_,_,_,rfl,(HW.out.g.1.up (by omega))⟩⟩
theorem Q5{b N C:Nat}{w:World}{M:Nat→Nat→Prop}{x0:Bool}{v1:Value}{x2:Int}{v3:Value}{x4:Int}{x5:ByteArray}{v6:Value}{x7 x8:Int}{v9:Value}{x10:Bool}{f0:Int}{f1:Bool}{f2:Int}{f3:ByteArray}(hw:TW b M w)(hb0:b≤w.heap.size)(E:ET b M w N C v1 x2 v3 x4 x5 v6 v9)(hN:N≤2000000)(hf:f3.size≤700)(hg:f0=8→1≤f3.size):Calls Tryz.prog 97 #[.agg (eC x0 v1 x2 v3 x4 x5 v6 x7 x8 v9 x10).toArray,.agg (fC f0 f1 f2 f3).toArray] w (EPost b M w (N+2) C):=by
 obtain⟨A1,n1,c1,A3,n3,c3,A6,n6,c6,A9,n9,c9,rfl,rfl,rfl,rfl,Qg,Qh⟩:=E.form4
 have HW:ah (LW b NX M w [] (xw b N C (.slice A1 n1 c1) x2 (.slice A3 n3 c3) x4 x5 (.slice A6 n6 c6) (.slice A9 n9 c9)) M w):=⟨LW.start hw E (Mon.et _ _ _ _ _ _ _ _ _)⟩
 clear hw E
 go_enter Tryz.func97,Tryz.ntmps97
 go_upto_if 8 with(first|((with_reducible refine gd 2 rfl ?_);refine lbx (N:=2) (t:=31) HW (eC x0 (.slice A1 n1 c1) x2 (.slice A3 n3 c3) x4 x5 (.slice A6 n6 c6) x7 x8 (.slice A9 n9 c9) x10) ?_;clear HW;intro g2 pF HW)|((with_reducible refine gd 3 rfl ?_);refine lbx (N:=3) (t:=42) HW (fC f0 f1 f2 f3) ?_;clear HW;intro g3 xG HW)|((with_reducible refine gd 4 rfl ?_);refine lbx (N:=4) (t:=31) HW zE ?_;clear HW;intro g4 AX HW)|((with_reducible refine gd 7 rfl ?_);refine lls HW 1 0 (.int .i64 f0) Tryz.underlying3 ?_))
 by_cases vw:f0=1
 ·skip
  subst vw
  go_wp2_with (first|((with_reducible refine gd 10 rfl ?_);refine lE HW 2 0 ?_)|((with_reducible refine gd 11 rfl ?_);refine uN HW 1 0 (fC _ _ _ _) Tryz.underlying42 ?_)|((with_reducible refine gq 99 rfl ?_);refine gl (some 12) Tryz.func99 #[(.agg (eC _ _ _ _ _ _ _ _ _ _ _).toArray),(.agg (fC _ _ _ _).toArray)] ?_;with_reducible refine(Sk HW.out.ts.tw (HW.out.hb hb0) (N:=N) (C:=C) (HW.out.g.up (by omega)) (by omega) hf).mono ?_;rintro e PK h_;obtain⟨E_,M_105,rfl,gQ,hE_⟩:=h_.out;refine⟨_,rfl,?_⟩;obtain⟨ahT,ahU,ahV,ahW,ahX,ahY,ahZ,ai0,ai1,ai2,ai3,ai4,ai5,ai6,ai7,ai8,ai9,aia,aaw,rfl,hF_,aax,aay⟩:=hE_.out4;clear hE_;replace HW:=ah.mk (LW.et (HW.out.call gQ) hF_);clear gQ hF_)|((with_reducible refine aj (t:=31) (p:=4) rfl ?_);refine iA HW 0 ?_;clear HW;intro vZ HW;(try simp only[List.set_cons_zero,List.set_cons_succ]at HW)))
  refine bodyPost_ret (results_cell_row rfl _ _ g4 31 (eC _ _ _ _ _ _ _ _ _ _ _).toArray (0,0) _ rfl (HW.out.at 0 rfl) Tryz.underlying31 rfl (by kernel_rfl)) rfl ?_
  exact⟨_,_,rfl,HW.out.ts,⟨_,_,_,_,_,_,_,_,_,_,_,rfl,(HW.out.g.2.up (by omega))⟩⟩
 ·skip
  have Q0:(f0==1)=false:=beq_eq_false_iff_ne.mpr vw
  have a2H:(f0 != 1)=true:=bne_iff_ne.mpr vw
  go_upto_if 13 with(fail)
  by_cases wh:f0=0
  ·skip
   subst wh
   go_wp2_with (first|((with_reducible refine gd 15 rfl ?_);refine lE HW 2 0 ?_)|((with_reducible refine gd 16 rfl ?_);refine uN HW 1 0 (fC _ _ _ _) Tryz.underlying42 ?_)|((with_reducible refine gq 100 rfl ?_);refine gl (some 17) Tryz.func100 #[(.agg (eC _ _ _ _ _ _ _ _ _ _ _).toArray),(.agg (fC _ _ _ _).toArray)] ?_;with_reducible refine(Sw HW.out.ts.tw (HW.out.hb hb0) (N:=N) (C:=C) (HW.out.g.up (by omega)) (by omega) hf).mono ?_;rintro e Fz h_;obtain⟨E_,M_109,rfl,gQ,hE_⟩:=h_.out;refine⟨_,rfl,?_⟩;obtain⟨aib,aic,aid,aie,aif,aii,aij,aik,ail,aim,ain,aio,aip,aiq,air,ais,ait,aiu,aaz,rfl,hF_,aaA,aaB⟩:=hE_.out4;clear hE_;replace HW:=ah.mk (LW.et (HW.out.call gQ) hF_);clear gQ hF_)|((with_reducible refine aj (t:=31) (p:=4) rfl ?_);refine iA HW 0 ?_;clear HW;intro FB HW;(try simp only[List.set_cons_zero,List.set_cons_succ]at HW)))
   refine bodyPost_ret (results_cell_row rfl _ _ g4 31 (eC _ _ _ _ _ _ _ _ _ _ _).toArray (0,0) _ rfl (HW.out.at 0 rfl) Tryz.underlying31 rfl (by kernel_rfl)) rfl ?_
   exact⟨_,_,rfl,HW.out.ts,⟨_,_,_,_,_,_,_,_,_,_,_,rfl,(HW.out.g.2.up (by omega))⟩⟩
  ·skip
   have Ip:(f0==0)=false:=beq_eq_false_iff_ne.mpr wh
   have ado:(f0 != 0)=true:=bne_iff_ne.mpr wh
   go_upto_if 18 with(fail)
   by_cases AY:f0=8
   ·skip
    subst AY
    go_wp2_with (first|((with_reducible refine gd 20 rfl ?_);refine lE HW 2 0 ?_)|((with_reducible refine gd 21 rfl ?_);refine uN HW 1 0 (fC _ _ _ _) Tryz.underlying42 ?_)|((with_reducible refine gq 101 rfl ?_);refine gl (some 22) Tryz.func101 #[(.agg (eC _ _ _ _ _ _ _ _ _ _ _).toArray),(.agg (fC _ _ _ _).toArray)] ?_;with_reducible refine(Sz HW.out.ts.tw (HW.out.hb hb0) (N:=N) (C:=C) (HW.out.g.up (by omega)) (by omega) (hg rfl)).mono ?_;rintro e Dh h_;obtain⟨E_,M_113,rfl,gQ,hE_⟩:=h_.out;refine⟨_,rfl,?_⟩;obtain⟨aFN,aFO,aFP,aFQ,aFR,aFS,aFT,aFU,aFV,aFW,aFX,aFY,aFZ,aG0,aG1,aG2,aG3,aG4,azH,rfl,hF_,azI,azJ⟩:=hE_.out4;clear hE_;replace HW:=ah.mk (LW.et (HW.out.call gQ) hF_);clear gQ hF_)|((with_reducible refine aj (t:=31) (p:=4) rfl ?_);refine iA HW 0 ?_;clear HW;intro KO HW;(try simp only[List.set_cons_zero,List.set_cons_succ]at HW)))
    refine bodyPost_ret (results_cell_row rfl _ _ g4 31 (eC _ _ _ _ _ _ _ _ _ _ _).toArray (0,0) _ rfl (HW.out.at 0 rfl) Tryz.underlying31 rfl (by kernel_rfl)) rfl ?_
    exact⟨_,_,rfl,HW.out.ts,⟨_,_,_,_,_,_,_,_,_,_,_,rfl,(HW.out.g.2.up (by omega))⟩⟩
   ·skip
    have WE:(f0==8)=false:=beq_eq_false_iff_ne.mpr AY
    have adh:(f0 != 8)=true:=bne_iff_ne.mpr AY
    go_upto_region 9 with(first|((with_reducible refine gd 23 rfl ?_);refine lE HW 2 0 ?_)|((with_reducible refine gd 25 rfl ?_);refine lls HW 1 2 (.int .i64 f2) Tryz.underlying3 ?_)|((with_reducible refine gq 49 rfl ?_);refine gl (some 26) Tryz.func49 #[(.agg (eC _ _ _ _ _ _ _ _ _ _ _).toArray),(.int .i64 f2)] ?_;with_reducible refine(Ig f2 HW.out.ts.tw (N:=N) (C:=C) (HW.out.g.up (by omega)) (by omega)).mono ?_;rintro e yL ⟨aaC,rfl,aG5,aG6,hb⟩;refine⟨_,rfl,?_⟩;replace HW:=ah.mk (HW.out.quiet hb);clear hb))
    by_cases Q6:aaC<0
    ·skip
     have adp:=decide_eq_true Q6
     go_wp2_with (first|((with_reducible refine aj (t:=4) (p:=34) rfl ?_);refine mP HW 2 10 (.bool true) (eC _ _ _ _ _ _ _ _ _ _ _) ([_]) ?_ (fP rfl);clear HW;intro xI HW;(try simp only[List.set_cons_zero,List.set_cons_succ]at HW))|((with_reducible refine gd 35 rfl ?_);refine lE HW 2 0 ?_)|((with_reducible refine aj (t:=31) (p:=4) rfl ?_);refine iA HW 0 ?_;clear HW;intro Cc HW;(try simp only[List.set_cons_zero,List.set_cons_succ]at HW)))
     refine bodyPost_ret (results_cell_row rfl _ _ g4 31 (eC _ _ _ _ _ _ _ _ _ _ _).toArray (0,0) _ rfl (HW.out.at 0 rfl) Tryz.underlying31 rfl (by kernel_rfl)) rfl ?_
     exact⟨_,_,rfl,HW.out.ts,⟨_,_,_,_,_,_,_,_,_,_,_,rfl,(HW.out.g.up (by omega))⟩⟩
    ·skip
     have adp:=decide_eq_false Q6
     have aOt:=HW.out.cell (v:=(.bool x0)) 2 0
     go_upto_if 33 with(fail)
     cases x0 with
     |true=>
      go_upto_region 12 with(fail)
      have WJ:=(show 0≤aaC∧aaC<(n6:Int)from⟨by omega,by omega⟩)
      obtain⟨aG7,aqa,_,_⟩:=SL.has (HW.out.g.s6) (by omega)
      subst aqa
      obtain⟨s0_e,s1_e,u2_e,s3_e,s4_e,s5_e,s6_e,u7_e,s8_e,s9_e,s10_e,s11_e,PI,uO⟩:=HW.out.rd39 (HW.out.g.s6) (i:=aaC) (by omega) (by omega)
      obtain⟨A2_e,n2_e,d2_e,A7_e,n7_e,d7_e,yS,Cf⟩:=uO.form
      subst yS Cf
      replace HW:=ah.mk (LW.fact (H:=Ih b (.slice A2_e n2_e d2_e) s3_e s6_e (.slice A7_e n7_e d7_e) s8_e) HW.out uO (Mon.st _ _ _ _ _))
      clear uO
      have Yt:=eq_true WJ.1
      have Yu:=eq_true WJ.2
      go_wp2_with (first|((with_reducible refine gd 37 rfl ?_);refine lls HW 2 6 (.slice (some ⟨aG7,0,none⟩) n6 c6) Tryz.underlying26 ?_)|((with_reducible refine aj (t:=3) (p:=40) rfl ?_);refine lsn HW (HW.out.g.1.s6) WJ.1 WJ.2 1 (by decide) ?_;clear HW;intro Fv HW;(try simp only[List.set_cons_zero,List.set_cons_succ]at HW))|((with_reducible refine gd 41 rfl ?_);refine lE HW 2 0 ?_)|((with_reducible refine aj (t:=31) (p:=4) rfl ?_);refine iA HW 0 ?_;clear HW;intro KI HW;(try simp only[List.set_cons_zero,List.set_cons_succ]at HW)))
      refine bodyPost_ret (results_cell_row rfl _ _ g4 31 (eC _ _ _ _ _ _ _ _ _ _ _).toArray (0,0) _ rfl (HW.out.at 0 rfl) Tryz.underlying31 rfl (by kernel_rfl)) rfl ?_
      exact⟨_,_,rfl,HW.out.ts,⟨_,_,_,_,_,_,_,_,_,_,_,rfl,(HW.out.g.1.up (by omega))⟩⟩
     |false=>
      go_wp2_with (first|((with_reducible refine aj (t:=4) (p:=34) rfl ?_);refine mP HW 2 10 (.bool true) (eC _ _ _ _ _ _ _ _ _ _ _) ([_]) ?_ (fP rfl);clear HW;intro KJ HW;(try simp only[List.set_cons_zero,List.set_cons_succ]at HW))|((with_reducible refine gd 35 rfl ?_);refine lE HW 2 0 ?_)|((with_reducible refine aj (t:=31) (p:=4) rfl ?_);refine iA HW 0 ?_;clear HW;intro PE HW;(try simp only[List.set_cons_zero,List.set_cons_succ]at HW)))
      refine bodyPost_ret (results_cell_row rfl _ _ g4 31 (eC _ _ _ _ _ _ _ _ _ _ _).toArray (0,0) _ rfl (HW.out.at 0 rfl) Tryz.underlying31 rfl (by kernel_rfl)) rfl ?_
      exact⟨_,_,rfl,HW.out.ts,⟨_,_,_,_,_,_,_,_,_,_,_,rfl,(HW.out.g.up (by omega))⟩⟩
theorem SA{b N C:Nat}{w:World}{M:Nat→Nat→Prop}{x0:Bool}{v1:Value}{x2:Int}{v3:Value}{x4:Int}{x5:ByteArray}{v6:Value}{x7 x8:Int}{v9:Value}{x10:Bool}{bb:ByteArray}(hw:TW b M w)(hb0:b≤w.heap.size)(E:ET b M w N C v1 x2 v3 x4 x5 v6 v9)(hN:N≤1500000)(hs:x5.size+bb.size≤700):Calls Tryz.prog 95 #[.agg (eC x0 v1 x2 v3 x4 x5 v6 x7 x8 v9 x10).toArray,.string bb] w (EPost b M w (N+700) 700):=by
 obtain⟨A1,n1,c1,A3,n3,c3,A6,n6,c6,A9,n9,c9,rfl,rfl,rfl,rfl,Qg,Qh⟩:=E.form4
 have Sy:(9223372036854775807<x5.size+bb.size)=False:=eq_false (by omega)
 have aG8:(x5++bb).size≤700:=by rw[bf];omega
 have HW:ah (LW b NX M w [] (xw b N C (.slice A1 n1 c1) x2 (.slice A3 n3 c3) x4 x5 (.slice A6 n6 c6) (.slice A9 n9 c9)) M w):=⟨LW.start hw E (Mon.et _ _ _ _ _ _ _ _ _)⟩
 clear hw E
 go_enter Tryz.func95,Tryz.ntmps95
 go_wp2_with (first|((with_reducible refine gd 2 rfl ?_);refine lbx (N:=2) (t:=31) HW (eC x0 (.slice A1 n1 c1) x2 (.slice A3 n3 c3) x4 x5 (.slice A6 n6 c6) x7 x8 (.slice A9 n9 c9) x10) ?_;clear HW;intro g2 pF HW)|((with_reducible refine gd 4 rfl ?_);refine lbx (N:=4) (t:=31) HW zE ?_;clear HW;intro g4 xG HW)|((with_reducible refine gd 9 rfl ?_);refine lls HW 1 5 (.string x5) Tryz.underlying9 ?_)|((with_reducible refine aj (t:=9) (p:=12) rfl ?_);refine mP HW 1 5 (.string (x5++bb)) (eC _ _ _ _ _ _ _ _ _ _ _) ([_]) ?_ (fP rfl);clear HW;intro AX HW;(try simp only[List.set_cons_zero,List.set_cons_succ]at HW)))
 go_loopg [6,7] ((x5++bb).size) (fun kq y6 y7 wq=>∃(Mq:Nat→Nat→Prop)(Nr:Nat)(x0r:Bool)(A1r:Option Addr)(n1r:Nat)(c1r:Nat)(x2r:Int)(A3r:Option Addr)(n3r:Nat)(c3r:Nat)(x4r:Int)(x5r:ByteArray)(A6r:Option Addr)(n6r:Nat)(c6r:Nat)(x7r:Int)(x8r:Int)(A9r:Option Addr)(n9r:Nat)(c9r:Nat)(x10r:Bool),ah (x5r.size≤kq∧kq≤700∧Nr+x5r.size≤N+700)∧ah (LW b NX M w [⟨g4,eC false (.slice none 0 0) 0 (.slice none 0 0) 0 (⟨#[]⟩:ByteArray) (.slice none 0 0) 0 0 (.slice none 0 0) false,31⟩,⟨g2,eC x0r (.slice A1r n1r c1r) x2r (.slice A3r n3r c3r) x4r x5r (.slice A6r n6r c6r) x7r x8r (.slice A9r n9r c9r) x10r,31⟩] (xw b Nr 700 (.slice A1r n1r c1r) x2r (.slice A3r n3r c3r) x4r x5r (.slice A6r n6r c6r) (.slice A9r n9r c9r)) Mq wq))
 case atStart=>exact⟨_,N,_,_,_,_,_,_,_,_,_,_,_,_,_,_,_,_,_,_,_,⟨⟨by omega,by omega,by omega⟩⟩,⟨LW.less HW.out ⟨HW.out.g.t1,HW.out.g.t3,aG8,(HW.out.g.s6.mono (N':=N) (by omega)),(HW.out.g.s9.mono (N':=N) (by omega))⟩ (Mon.et _ _ _ _ _ _ _ _ _)⟩⟩
 case round=>
  clear HW
  obtain⟨Mq,Nr,x0r,A1r,n1r,c1r,x2r,A3r,n3r,c3r,x4r,x5r,A6r,n6r,c6r,x7r,x8r,A9r,n9r,c9r,x10r,HI,HC⟩:=hrel
  have HW:=HC
  clear HC
  obtain⟨hi1,hi2,hi3⟩:=HI.out
  go_upto_if 15 with(first|((with_reducible refine gd 14 rfl ?_);refine lls HW 1 10 (.bool x10r) Tryz.underlying4 ?_))
  cases x10r with
  |true=>
   go_wp2_with (first|((with_reducible refine gd 37 rfl ?_);refine lE HW 1 0 ?_)|((with_reducible refine aj (t:=31) (p:=4) rfl ?_);refine iA HW 0 ?_;clear HW;intro xH HW;(try simp only[List.set_cons_zero,List.set_cons_succ]at HW)))
   refine bodyPost_ret (results_cell_row rfl _ _ g4 31 (eC _ _ _ _ _ _ _ _ _ _ _).toArray (0,0) _ rfl (HW.out.at 0 rfl) Tryz.underlying31 rfl (by kernel_rfl)) rfl ?_
   exact⟨_,_,rfl,HW.out.ts,⟨_,_,_,_,_,_,_,_,_,_,_,rfl,(HW.out.g.up (by omega))⟩⟩
  |false=>
   go_upto_if 24 with(first|((with_reducible refine gd 18 rfl ?_);refine lls HW 1 5 (.string x5r) Tryz.underlying9 ?_)|((with_reducible refine gq 45 rfl ?_);refine gl (some 19) Tryz.func45 #[(.string x5r)] ?_;with_reducible refine(a9r x5r (by omega)).mono ?_;rintro e vZ ⟨aG9,aGa,aGb,aiv,Iz,a2I,rfl,aiw,hb⟩;refine⟨_,rfl,?_⟩;replace HW:=ah.mk (HW.out.quiet hb);clear hb)|((with_reducible refine gd 5 rfl ?_);refine lbx (N:=5) (t:=42) HW (fC 0 false 0 (⟨#[]⟩:ByteArray)) ?_;clear HW;intro g5 AU HW)|((with_reducible refine aj (t:=42) (p:=5) rfl ?_);refine iA HW 0 ?_;clear HW;intro AQ HW;(try simp only[List.set_cons_zero,List.set_cons_succ]at HW)))
   by_cases yQ:a2I<0
   ·skip
    have CW:=decide_eq_true yQ
    go_upto_if 27 with(first|((with_reducible refine aj (t:=4) (p:=25) rfl ?_);refine mP HW 2 10 (.bool true) (eC _ _ _ _ _ _ _ _ _ _ _) ([_]) ?_ (fP rfl);clear HW;intro FB HW;(try simp only[List.set_cons_zero,List.set_cons_succ]at HW)))
    by_cases AY:a2I≤0
    ·skip
     have WE:=decide_eq_true AY
     go_wp2_with (first|((with_reducible refine gd 28 rfl ?_);refine lE HW 2 0 ?_)|((with_reducible refine aj (t:=31) (p:=4) rfl ?_);refine iA HW 1 ?_;clear HW;intro AV HW;(try simp only[List.set_cons_zero,List.set_cons_succ]at HW)))
     refine bodyPost_ret (results_cell_row rfl _ _ g4 31 (eC _ _ _ _ _ _ _ _ _ _ _).toArray (0,0) _ rfl (HW.out.at 1 rfl) Tryz.underlying31 rfl (by kernel_rfl)) rfl ?_
     exact⟨_,_,rfl,HW.out.ts,⟨_,_,_,_,_,_,_,_,_,_,_,rfl,(HW.out.g.up (by omega))⟩⟩
    ·skip
     have WE:=decide_eq_false AY
     exact absurd AY (by omega)
   ·skip
    have CW:=decide_eq_false yQ
    go_upto_if 27 with(fail)
    by_cases Ci:a2I≤0
    ·skip
     have WK:=decide_eq_true Ci
     go_wp2_with (first|((with_reducible refine gd 28 rfl ?_);refine lE HW 2 0 ?_)|((with_reducible refine aj (t:=31) (p:=4) rfl ?_);refine iA HW 1 ?_;clear HW;intro KO HW;(try simp only[List.set_cons_zero,List.set_cons_succ]at HW)))
     refine bodyPost_ret (results_cell_row rfl _ _ g4 31 (eC _ _ _ _ _ _ _ _ _ _ _).toArray (0,0) _ rfl (HW.out.at 1 rfl) Tryz.underlying31 rfl (by kernel_rfl)) rfl ?_
     exact⟨_,_,rfl,HW.out.ts,⟨_,_,_,_,_,_,_,_,_,_,_,rfl,(HW.out.g.up (by omega))⟩⟩
    ·skip
     have WK:=decide_eq_false Ci
     go_upto_region 8 with(fail)
     obtain⟨aSy,aGc,adq,aaD⟩:=aiw (by omega)
     replace adq:aiv.size≤700:=by omega
     have pu_:=eq_true (show 0≤Iz by omega)
     have qu_:=eq_true aGc
     have aSz:(x5r.extract Iz.toNat x5r.size).size+Iz.toNat=x5r.size:=by rw[ByteArray.size_extract];omega
     have aaE:(x5r.extract Iz.toNat x5r.size).size≤700:=by omega
     go_wp2_with (first|((with_reducible refine gd 30 rfl ?_);refine lls HW 2 5 (.string x5r) Tryz.underlying9 ?_)|((with_reducible refine aj (t:=9) (p:=33) rfl ?_);refine mP HW 2 5 (.string (x5r.extract Iz.toNat x5r.size)) (eC _ _ _ _ _ _ _ _ _ _ _) ([_]) ?_ (fP rfl);clear HW;intro yO HW;(try simp only[List.set_cons_zero,List.set_cons_succ]at HW))|((with_reducible refine gd 34 rfl ?_);refine lE HW 2 0 ?_)|((with_reducible refine gd 35 rfl ?_);refine uN HW 0 0 (fC _ _ _ _) Tryz.underlying42 ?_)|((with_reducible refine gq 97 rfl ?_);refine gl (some 36) Tryz.func97 #[(.agg (eC _ _ _ _ _ _ _ _ _ _ _).toArray),(.agg (fC _ _ _ _).toArray)] ?_;with_reducible refine(Q5 HW.out.ts.tw (HW.out.hb hb0) (N:=Nr) (C:=((x5r.extract Iz.toNat x5r.size).size)) ⟨HW.out.g.t1,HW.out.g.t3,(Nat.le_refl _),(HW.out.g.s6.mono (N':=Nr) (by omega)),(HW.out.g.s9.mono (N':=Nr) (by omega))⟩ (by omega) adq aaD).mono ?_;rintro e yM h_;obtain⟨E_,M_117,rfl,gQ,hE_⟩:=h_.out;refine⟨_,rfl,?_⟩;obtain⟨a2J,a2K,a2L,a2M,a2N,a2O,a2P,a2Q,a2R,SB,a2S,a2T,a2U,a2V,a2W,a2X,a2Y,a2Z,WL,rfl,hF_,WM,WN⟩:=hE_.out4;clear hE_;replace HW:=ah.mk (LW.et (HW.out.call gQ) hF_);clear gQ hF_)|((with_reducible refine aj (t:=31) (p:=2) rfl ?_);refine iA HW 2 ?_;clear HW;intro xI HW;(try simp only[List.set_cons_zero,List.set_cons_succ]at HW)))
     have aSA:=HW.out.g.2.c5
     go_roundg (SB.size)
     case measure=>omega
     case rel=>exact⟨_,Nr+2,_,_,_,_,_,_,_,_,_,_,_,_,_,_,_,_,_,_,_,⟨⟨Nat.le_refl _,by omega,by omega⟩⟩,⟨LW.less HW.out.drop ⟨HW.out.g.2.t1,HW.out.g.2.t3,(by omega),(HW.out.g.2.s6.mono (N':=(Nr+2)) (by omega)),(HW.out.g.2.s9.mono (N':=(Nr+2)) (by omega))⟩ (Mon.et _ _ _ _ _ _ _ _ _)⟩⟩
theorem FM{b N:Nat}{w:World}{M:Nat→Nat→Prop}{x0:Bool}{v1:Value}{x2:Int}{v3:Value}{x4:Int}{x5:ByteArray}{v6:Value}{x7 x8:Int}{v9:Value}{x10:Bool}{bb:ByteArray}(hw:TW b M w)(hb0:b≤w.heap.size)(E:ET b M w N 700 v1 x2 v3 x4 x5 v6 v9)(hN:N≤1500000)(hs:bb.size≤700):Calls Tryz.prog 90 #[.agg (eC x0 v1 x2 v3 x4 x5 v6 x7 x8 v9 x10).toArray,.string bb] w (EPost b M w (N+700) 700):=by
 obtain⟨A1,n1,c1,A3,n3,c3,A6,n6,c6,A9,n9,c9,rfl,rfl,rfl,rfl,Qg,Qh⟩:=E.form4
 have aqb:=E.c5
 have HW:ah (LW b NX M w [] (xw b N 700 (.slice A1 n1 c1) x2 (.slice A3 n3 c3) x4 x5 (.slice A6 n6 c6) (.slice A9 n9 c9)) M w):=⟨LW.start hw E (Mon.et _ _ _ _ _ _ _ _ _)⟩
 clear hw E
 go_enter Tryz.func90,Tryz.ntmps90
 go_upto_region 1 with(first|((with_reducible refine gd 2 rfl ?_);refine lbx (N:=2) (t:=31) HW (eC x0 (.slice A1 n1 c1) x2 (.slice A3 n3 c3) x4 x5 (.slice A6 n6 c6) x7 x8 (.slice A9 n9 c9) x10) ?_;clear HW;intro g2 pF HW)|((with_reducible refine gd 4 rfl ?_);refine lbx (N:=4) (t:=31) HW zE ?_;clear HW;intro g4 xG HW))
 cases x10 with
 |true=>
  go_wp2_with (first|((with_reducible refine gd 6 rfl ?_);refine lls HW 1 10 (.bool true) Tryz.underlying4 ?_)|((with_reducible refine gd 22 rfl ?_);refine lE HW 1 0 ?_)|((with_reducible refine aj (t:=31) (p:=4) rfl ?_);refine iA HW 0 ?_;clear HW;intro Ca HW;(try simp only[List.set_cons_zero,List.set_cons_succ]at HW)))
  refine bodyPost_ret (results_cell_row rfl _ _ g4 31 (eC _ _ _ _ _ _ _ _ _ _ _).toArray (0,0) _ rfl (HW.out.at 0 rfl) Tryz.underlying31 rfl (by kernel_rfl)) rfl ?_
  exact⟨_,_,rfl,HW.out.ts,⟨_,_,_,_,_,_,_,_,_,_,_,rfl,(HW.out.g.up (by omega))⟩⟩
 |false=>
  by_cases c105:(x5.size:Int)+(bb.size:Int)>300
  ·skip
   have Iq:=decide_eq_true c105
   have Wz:=HW.out.cell (v:=(.string x5)) 1 5
   go_wp2_with (first|((with_reducible refine gd 6 rfl ?_);refine lls HW 1 10 (.bool false) Tryz.underlying4 ?_)|((with_reducible refine gd 22 rfl ?_);refine lE HW 1 0 ?_)|((with_reducible refine aj (t:=31) (p:=4) rfl ?_);refine iA HW 0 ?_;clear HW;intro vZ HW;(try simp only[List.set_cons_zero,List.set_cons_succ]at HW)))
   refine bodyPost_ret (results_cell_row rfl _ _ g4 31 (eC _ _ _ _ _ _ _ _ _ _ _).toArray (0,0) _ rfl (HW.out.at 0 rfl) Tryz.underlying31 rfl (by kernel_rfl)) rfl ?_
   exact⟨_,_,rfl,HW.out.ts,⟨_,_,_,_,_,_,_,_,_,_,_,rfl,(HW.out.g.up (by omega))⟩⟩
  ·skip
   have Iq:=decide_eq_false c105
   have aqc:=HW.out.cell (v:=(.string x5)) 1 5
   have ad7:=HW.out.cell (v:=(.slice A9 n9 c9)) 1 9
   go_upto_if 21 with(first|((with_reducible refine gd 6 rfl ?_);refine lls HW 1 10 (.bool false) Tryz.underlying4 ?_))
   by_cases yQ:(n9:Int)>40
   ·skip
    have CW:=decide_eq_true yQ
    go_wp2_with (first|((with_reducible refine gd 22 rfl ?_);refine lE HW 1 0 ?_)|((with_reducible refine aj (t:=31) (p:=4) rfl ?_);refine iA HW 0 ?_;clear HW;intro FB HW;(try simp only[List.set_cons_zero,List.set_cons_succ]at HW)))
    refine bodyPost_ret (results_cell_row rfl _ _ g4 31 (eC _ _ _ _ _ _ _ _ _ _ _).toArray (0,0) _ rfl (HW.out.at 0 rfl) Tryz.underlying31 rfl (by kernel_rfl)) rfl ?_
    exact⟨_,_,rfl,HW.out.ts,⟨_,_,_,_,_,_,_,_,_,_,_,rfl,(HW.out.g.up (by omega))⟩⟩
   ·skip
    have CW:=decide_eq_false yQ
    go_upto_region 3 with(fail)
    have aaj:x5.size+bb.size≤700:=by omega
    go_wp2_with (first|((with_reducible refine gd 23 rfl ?_);refine lE HW 1 0 ?_)|((with_reducible refine gq 95 rfl ?_);refine gl (some 25) Tryz.func95 #[(.agg (eC _ _ _ _ _ _ _ _ _ _ _).toArray),(.string bb)] ?_;with_reducible refine(SA HW.out.ts.tw (HW.out.hb hb0) (N:=N) (C:=700) (HW.out.g.up (by omega)) (by omega) aaj).mono ?_;rintro e AV h_;obtain⟨E_,M_112,rfl,gQ,hE_⟩:=h_.out;refine⟨_,rfl,?_⟩;obtain⟨aGd,aGe,aGf,aGg,aGh,aGi,aGj,aGk,aGl,aGm,aGn,aGo,aGp,aGq,aGr,aGs,aGt,aGu,azK,rfl,hF_,azL,azM⟩:=hE_.out4;clear hE_;replace HW:=ah.mk (LW.et (HW.out.call gQ) hF_);clear gQ hF_)|((with_reducible refine aj (t:=31) (p:=4) rfl ?_);refine iA HW 0 ?_;clear HW;intro Dh HW;(try simp only[List.set_cons_zero,List.set_cons_succ]at HW)))
    refine bodyPost_ret (results_cell_row rfl _ _ g4 31 (eC _ _ _ _ _ _ _ _ _ _ _).toArray (0,0) _ rfl (HW.out.at 0 rfl) Tryz.underlying31 rfl (by kernel_rfl)) rfl ?_
    exact⟨_,_,rfl,HW.out.ts,⟨_,_,_,_,_,_,_,_,_,_,_,rfl,(HW.out.g.2.up (by omega))⟩⟩
theorem Q7{b:Nat}{w:World}{M:Nat→Nat→Prop}(hw:TW b M w)(hb0:b≤w.heap.size):Calls Tryz.prog 67 #[] w (Ik b M w 0):=by
 have HW:ah (LW b NX M w [] (fun _ _=>True) M w):=⟨LW.start hw trivial (Mon.top _)⟩
 clear hw
 go_enter Tryz.func67,Tryz.ntmps67
 go_wp2_with (first|((with_reducible refine gd 0 rfl ?_);refine lbx (N:=0) (t:=47) HW zW ?_;clear HW;intro g0 pF HW)|((with_reducible refine gq 79 rfl ?_);refine gl (some 1) Tryz.func79 #[(.bool false)] ?_;with_reducible refine(Ir false HW.out.ts.tw (HW.out.hb hb0)).mono ?_;rintro e AX h_;obtain⟨E_,M_102,rfl,gQ,hE_⟩:=h_.out;refine⟨_,rfl,?_⟩;obtain⟨FN,FO,FP,FQ,FU,FV,FW,FX,FY,FZ,Cj,uP,yR,G5,G6,G7,G8,G9,Ba,rfl,hF_,KX,KY⟩:=hE_.out4;clear hE_;replace HW:=ah.mk (LW.et (HW.out.call gQ) hF_);clear gQ hF_)|((with_reducible refine gq 79 rfl ?_);refine gl (some 2) Tryz.func79 #[(.bool true)] ?_;with_reducible refine(Ir true HW.out.ts.tw (HW.out.hb hb0)).mono ?_;rintro e xH h_;obtain⟨E_,M_104,rfl,gQ,hE_⟩:=h_.out;refine⟨_,rfl,?_⟩;obtain⟨SC,KZ,L6,L8,SF,L9,La,Lb,SG,SH,SI,SK,SN,SQ,SS,Lc,Ga,Ld,Le,rfl,hF_,WO,WQ⟩:=hE_.out4;clear hE_;replace HW:=ah.mk (LW.et (HW.out.call gQ) hF_);clear gQ hF_)|((with_reducible refine aj (t:=47) (p:=0) rfl ?_);refine iA HW 0 ?_;clear HW;intro PK HW;(try simp only[List.set_cons_zero,List.set_cons_succ]at HW)))
 refine bodyPost_ret (results_cell_row rfl _ _ g0 47 (wC _ _ _ _ _ _ _ _ _ _ _ _ _ _ _ _ _ _ _ _ _ _ _ _).toArray (0,0) _ rfl (HW.out.at 0 rfl) Tryz.underlying47 rfl (by kernel_rfl)) rfl ?_
 exact⟨_,_,rfl,HW.out.ts,⟨_,_,_,_,_,_,_,_,_,_,_,_,_,_,_,_,_,_,_,_,_,_,_,_,rfl,(HW.out.g.1.2.up (by omega)),(HW.out.g.2.up (by omega)),(by decide),(by decide)⟩⟩
def jU.T6:Bool×List (List Nat×List Nat):=(true,[([],[]),([0],[0]),([],[]),([2],[2]),([],[]),([3,4],[3,4]),([1,5],[1,5]),([0,1,2,3,4,5,6],[]),([7,6,6,0,1,2,3,4,5,6],[6,7])])
def jU.B6:List Nat:=[0,1,0,4,0,28,63,127,255]
theorem jU.tab6:jm .any (opsOf Tryz.f83 6)=jU.T6:=by kernel_rfl
theorem jU.bits6:fQ jU.T6.2 jU.B6=true:=by kernel_rfl
def jU.T10:Bool×List (List Nat×List Nat):=(true,[([],[]),([0],[0]),([],[]),([2],[2]),([],[]),([3,4],[3,4]),([1,5],[1,5]),([0,1,2,3,4,5,6],[]),([7,6,6,0,1,2,3,4,5,6],[6,7])])
def jU.B10:List Nat:=[0,1,0,4,0,28,63,127,255]
theorem jU.tab10:jm .any (opsOf Tryz.f83 10)=jU.T10:=by kernel_rfl
theorem jU.bits10:fQ jU.T10.2 jU.B10=true:=by kernel_rfl
theorem SX{b N:Nat}{w:World}{M:Nat→Nat→Prop}{x0:Bool}{v1:Value}{x2:Int}{v3:Value}{x4:Int}{x5:ByteArray}{v6:Value}{x7 x8:Int}{v9:Value}{x10:Bool}{y0:Bool}{u1:Value}{y2:Int}{u3:Value}{y4:Int}{y5:ByteArray}{u6:Value}{y7 y8:Int}{u9:Value}{xD:Bool}{su sd:ByteArray}{way n:Int}(hw:TW b M w)(hb0:b≤w.heap.size)(E:ET b M w N 700 v1 x2 v3 x4 x5 v6 v9)(F:ET b M w N 700 u1 y2 u3 y4 y5 u6 u9)(hN:N≤1000000)(hsu:su.size≤800)(hsd:sd.size≤800):Calls Tryz.prog 83 #[.agg (wC x0 v1 x2 v3 x4 x5 v6 x7 x8 v9 x10 y0 u1 y2 u3 y4 y5 u6 y7 y8 u9 xD su sd).toArray,.int .i64 way,.int .i64 n] w (Ik b M w (N+700)):=by
 obtain⟨A1,n1,c1,A3,n3,c3,A6,n6,c6,A9,n9,c9,rfl,rfl,rfl,rfl,Qg,Qh⟩:=E.form4
 obtain⟨B1,m1,k1,B3,m3,k3,B6,m6,k6,B9,m9,k9,rfl,rfl,rfl,rfl,hm6,hm9⟩:=F.form4
 have HW:ah (LW b NX M w [] (xw b N 700 (.slice A1 n1 c1) x2 (.slice A3 n3 c3) x4 x5 (.slice A6 n6 c6) (.slice A9 n9 c9)) M w):=⟨LW.start hw E (Mon.et _ _ _ _ _ _ _ _ _)⟩
 replace HW:=ah.mk (LW.fact (H:=xw b N 700 (.slice B1 m1 k1) y2 (.slice B3 m3 k3) y4 y5 (.slice B6 m6 k6) (.slice B9 m9 k9)) HW.out F (Mon.et _ _ _ _ _ _ _ _ _))
 clear hw E F
 go_enter Tryz.func83,Tryz.ntmps83
 go_upto_if 11 with(first|((with_reducible refine gd 3 rfl ?_);refine lbx (N:=3) (t:=47) HW (wC x0 (.slice A1 n1 c1) x2 (.slice A3 n3 c3) x4 x5 (.slice A6 n6 c6) x7 x8 (.slice A9 n9 c9) x10 y0 (.slice B1 m1 k1) y2 (.slice B3 m3 k3) y4 y5 (.slice B6 m6 k6) y7 y8 (.slice B9 m9 k9) xD su sd) ?_;clear HW;intro g3 pF HW)|((with_reducible refine gd 6 rfl ?_);refine lbx (N:=6) (t:=47) HW zW ?_;clear HW;intro g6 xG HW)|((with_reducible refine gq 44 rfl ?_);refine gl (some 10) Tryz.func44 #[(.int .i64 n),(.int .i64 0),(.int .i64 90)] ?_;with_reducible refine(ap6 n 0 90).mono ?_;rintro e Ca ⟨aqd,rfl,WR,hb⟩;refine⟨_,rfl,?_⟩;replace HW:=ah.mk (HW.out.quiet hb);clear hb))
 cases aqd with
 |true=>
  go_upto_if 14 with(fail)
  by_cases yP:way=0
  ·skip
   subst yP
   go_upto_region 6 with(first|((with_reducible refine gd 18 rfl ?_);refine lls HW 1 22 (.string su) Tryz.underlying9 ?_)|((with_reducible refine gd 20 rfl ?_);refine RD _ _ ?_;intro Yg azN azO azP))
   obtain⟨aGv,aGw⟩:=WR rfl
   have pu_:=eq_true (show(0:Int)≤Yg by omega)
   have qu_:=eq_true (show Yg≤(su.size:Int) by omega)
   have aix:(su.extract 0 Yg.toNat).size≤700:=by rw[ByteArray.size_extract];omega
   have aaE:(su.extract Yg.toNat su.size).size≤800:=by rw[ByteArray.size_extract];omega
   refine nA HW (fun _=>True) [6,8] 9 (trivial) (fun AU HN hHeld=>?_)
   replace HW:=HN
   clear HN
   refine bR jU.tab6 jU.bits6 (fun HT_ HW_=>?_)
   refine pw 0 (some 21) rfl rfl ?_
   refine tk 1 (some 22) (bm 9 3) rfl rfl hHeld ?_ (hy:=yld _ 1 11 (eC _ _ _ _ _ _ _ _ _ _ _) Tryz.underlying31)
   refine pw 2 (some 23) rfl rfl ?_
   refine tk 3 (some 24) (bm 9 15) rfl rfl hHeld ?_ (hy:=jQ _ 1 22 (.string su) Tryz.underlying9)
   refine pw 4 (some 25) rfl rfl ?_
   refine pw 5 (some 26) rfl rfl ?_
   refine kJ (i:=6) (N:=some 27) (bm 9 127) rfl rfl (bL HT_.out (by kernel_rfl)) (by decide) (fun K hK=>?_)
   refine gs Tryz.func90 #[(.agg (eC _ _ _ _ _ _ _ _ _ _ _).toArray),(.string (su.extract 0 Yg.toNat))] ?_
   with_reducible refine(FM HW.out.ts.tw (HW.out.hb hb0) (N:=N) (HW.out.g.2.up (by omega)) (by omega) aix).mono ?_
   rintro e Fz h_
   obtain⟨E_,M_109,rfl,gQ,hE_⟩:=h_.out
   refine⟨_,rfl,?_⟩
   obtain⟨aib,aic,aid,aie,aif,aii,aij,aik,ail,aim,ain,aio,aip,aiq,air,ais,ait,aiu,aaz,rfl,hF_,aaA,aaB⟩:=hE_.out4
   clear hE_
   replace HW:=ah.mk (LW.et (HW.out.call gQ) hF_)
   clear gQ hF_
   refine hK.out _ _ ?_
   clear hK K
   refine nm ?_
   refine pw 7 (some 28) rfl rfl ?_
   refine kJ (i:=8) (N:=none) (bm 9 511) rfl rfl (bL HT_.out (by kernel_rfl)) (by decide) (fun K hK=>?_)
   refine gF (by rfl) ?_
   refine oQ HW 1 11 (.agg (eC _ _ _ _ _ _ _ _ _ _ _).toArray) (wC _ _ _ _ _ _ _ _ _ _ _ _ _ _ _ _ _ _ _ _ _ _ _ _) (eC _ _ _ _ _ _ _ _ _ _ _) ?_ (fP rfl)
   clear HW
   intro FB HW
   (try simp only[List.set_cons_zero,List.set_cons_succ]at HW)
   refine hK.out _ _ ?_
   clear hK K
   refine fw (dM HT_.out (by kernel_rfl)) ?_
   clear HT_ HW_
   go_wp2_with (first|((with_reducible refine gd 30 rfl ?_);refine lls HW 1 22 (.string su) Tryz.underlying9 ?_)|((with_reducible refine aj (t:=9) (p:=33) rfl ?_);refine mP HW 1 22 (.string (su.extract Yg.toNat su.size)) (wC _ _ _ _ _ _ _ _ _ _ _ _ _ _ _ _ _ _ _ _ _ _ _ _) ([_]) ?_ (fP rfl);clear HW;intro Cb HW;(try simp only[List.set_cons_zero,List.set_cons_succ]at HW))|((with_reducible refine gd 54 rfl ?_);refine CU HW 1 0 ?_)|((with_reducible refine aj (t:=47) (p:=6) rfl ?_);refine iA HW 0 ?_;clear HW;intro AV HW;(try simp only[List.set_cons_zero,List.set_cons_succ]at HW)))
   refine bodyPost_ret (results_cell_row rfl _ _ g6 47 (wC _ _ _ _ _ _ _ _ _ _ _ _ _ _ _ _ _ _ _ _ _ _ _ _).toArray (0,0) _ rfl (HW.out.at 0 rfl) Tryz.underlying47 rfl (by kernel_rfl)) rfl ?_
   exact⟨_,_,rfl,HW.out.ts,⟨_,_,_,_,_,_,_,_,_,_,_,_,_,_,_,_,_,_,_,_,_,_,_,_,rfl,(HW.out.g.1.1.up (by omega)),(HW.out.g.2.up (by omega)),aaE,hsd⟩⟩
  ·skip
   have PX:(way==0)=false:=beq_eq_false_iff_ne.mpr yP
   have aqe:(way != 0)=true:=bne_iff_ne.mpr yP
   go_upto_if 34 with(fail)
   by_cases Ci:way=1
   ·skip
    subst Ci
    go_upto_region 10 with(first|((with_reducible refine gd 38 rfl ?_);refine lls HW 1 23 (.string sd) Tryz.underlying9 ?_)|((with_reducible refine gd 40 rfl ?_);refine RD _ _ ?_;intro SY azQ azR azS))
    obtain⟨aGv,aGw⟩:=WR rfl
    have pu_:=eq_true (show(0:Int)≤SY by omega)
    have qu_:=eq_true (show SY≤(sd.size:Int) by omega)
    have aix:(sd.extract 0 SY.toNat).size≤700:=by rw[ByteArray.size_extract];omega
    have aaE:(sd.extract SY.toNat sd.size).size≤800:=by rw[ByteArray.size_extract];omega
    refine nA HW (fun _=>True) [6,8] 9 (trivial) (fun yO HN hHeld=>?_)
    replace HW:=HN
    clear HN
    refine bR jU.tab10 jU.bits10 (fun HT_ HW_=>?_)
    refine pw 0 (some 41) rfl rfl ?_
    refine tk 1 (some 42) (bm 9 3) rfl rfl hHeld ?_ (hy:=yld _ 1 0 (eC _ _ _ _ _ _ _ _ _ _ _) Tryz.underlying31)
    refine pw 2 (some 43) rfl rfl ?_
    refine tk 3 (some 44) (bm 9 15) rfl rfl hHeld ?_ (hy:=jQ _ 1 23 (.string sd) Tryz.underlying9)
    refine pw 4 (some 45) rfl rfl ?_
    refine pw 5 (some 46) rfl rfl ?_
    refine kJ (i:=6) (N:=some 47) (bm 9 127) rfl rfl (bL HT_.out (by kernel_rfl)) (by decide) (fun K hK=>?_)
    refine gs Tryz.func90 #[(.agg (eC _ _ _ _ _ _ _ _ _ _ _).toArray),(.string (sd.extract 0 SY.toNat))] ?_
    with_reducible refine(FM HW.out.ts.tw (HW.out.hb hb0) (N:=N) (HW.out.g.1.up (by omega)) (by omega) aix).mono ?_
    rintro e yM h_
    obtain⟨E_,M_117,rfl,gQ,hE_⟩:=h_.out
    refine⟨_,rfl,?_⟩
    obtain⟨a2J,a2K,a2L,a2M,a2N,a2O,a2P,a2Q,a2R,SB,a2S,a2T,a2U,a2V,a2W,a2X,a2Y,a2Z,WL,rfl,hF_,WM,WN⟩:=hE_.out4
    clear hE_
    replace HW:=ah.mk (LW.et (HW.out.call gQ) hF_)
    clear gQ hF_
    refine hK.out _ _ ?_
    clear hK K
    refine nm ?_
    refine pw 7 (some 48) rfl rfl ?_
    refine kJ (i:=8) (N:=none) (bm 9 511) rfl rfl (bL HT_.out (by kernel_rfl)) (by decide) (fun K hK=>?_)
    refine gF (by rfl) ?_
    refine oQ HW 1 0 (.agg (eC _ _ _ _ _ _ _ _ _ _ _).toArray) (wC _ _ _ _ _ _ _ _ _ _ _ _ _ _ _ _ _ _ _ _ _ _ _ _) (eC _ _ _ _ _ _ _ _ _ _ _) ?_ (fP rfl)
    clear HW
    intro xI HW
    (try simp only[List.set_cons_zero,List.set_cons_succ]at HW)
    refine hK.out _ _ ?_
    clear hK K
    refine fw (dM HT_.out (by kernel_rfl)) ?_
    clear HT_ HW_
    go_wp2_with (first|((with_reducible refine gd 50 rfl ?_);refine lls HW 1 23 (.string sd) Tryz.underlying9 ?_)|((with_reducible refine aj (t:=9) (p:=53) rfl ?_);refine mP HW 1 23 (.string (sd.extract SY.toNat sd.size)) (wC _ _ _ _ _ _ _ _ _ _ _ _ _ _ _ _ _ _ _ _ _ _ _ _) ([_]) ?_ (fP rfl);clear HW;intro Cc HW;(try simp only[List.set_cons_zero,List.set_cons_succ]at HW))|((with_reducible refine gd 54 rfl ?_);refine CU HW 1 0 ?_)|((with_reducible refine aj (t:=47) (p:=6) rfl ?_);refine iA HW 0 ?_;clear HW;intro yN HW;(try simp only[List.set_cons_zero,List.set_cons_succ]at HW)))
    refine bodyPost_ret (results_cell_row rfl _ _ g6 47 (wC _ _ _ _ _ _ _ _ _ _ _ _ _ _ _ _ _ _ _ _ _ _ _ _).toArray (0,0) _ rfl (HW.out.at 0 rfl) Tryz.underlying47 rfl (by kernel_rfl)) rfl ?_
    exact⟨_,_,rfl,HW.out.ts,⟨_,_,_,_,_,_,_,_,_,_,_,_,_,_,_,_,_,_,_,_,_,_,_,_,rfl,(HW.out.g.2.up (by omega)),(HW.out.g.1.2.up (by omega)),hsu,aaE⟩⟩
   ·skip
    have WK:(way==1)=false:=beq_eq_false_iff_ne.mpr Ci
    have adr:(way != 1)=true:=bne_iff_ne.mpr Ci
    go_wp2_with (first|((with_reducible refine gd 54 rfl ?_);refine CU HW 1 0 ?_)|((with_reducible refine aj (t:=47) (p:=6) rfl ?_);refine iA HW 0 ?_;clear HW;intro AR HW;(try simp only[List.set_cons_zero,List.set_cons_succ]at HW)))
    refine bodyPost_ret (results_cell_row rfl _ _ g6 47 (wC _ _ _ _ _ _ _ _ _ _ _ _ _ _ _ _ _ _ _ _ _ _ _ _).toArray (0,0) _ rfl (HW.out.at 0 rfl) Tryz.underlying47 rfl (by kernel_rfl)) rfl ?_
    exact⟨_,_,rfl,HW.out.ts,⟨_,_,_,_,_,_,_,_,_,_,_,_,_,_,_,_,_,_,_,_,_,_,_,_,rfl,(HW.out.g.1.up (by omega)),(HW.out.g.2.up (by omega)),hsu,hsd⟩⟩
 |false=>
  go_wp2_with (first|((with_reducible refine gd 12 rfl ?_);refine CU HW 1 0 ?_)|((with_reducible refine aj (t:=47) (p:=6) rfl ?_);refine iA HW 0 ?_;clear HW;intro Gu HW;(try simp only[List.set_cons_zero,List.set_cons_succ]at HW)))
  refine bodyPost_ret (results_cell_row rfl _ _ g6 47 (wC _ _ _ _ _ _ _ _ _ _ _ _ _ _ _ _ _ _ _ _ _ _ _ _).toArray (0,0) _ rfl (HW.out.at 0 rfl) Tryz.underlying47 rfl (by kernel_rfl)) rfl ?_
  exact⟨_,_,rfl,HW.out.ts,⟨_,_,_,_,_,_,_,_,_,_,_,_,_,_,_,_,_,_,_,_,_,_,_,_,rfl,(HW.out.g.1.up (by omega)),(HW.out.g.2.up (by omega)),hsu,hsd⟩⟩
def rW.T9:Bool×List (List Nat×List Nat):=(true,[([],[]),([0],[0]),([],[]),([],[]),([3],[3]),([],[]),([4,5],[4,5]),([6],[6]),([7],[7]),([8],[8]),([],[]),([9,10],[9,10]),([11],[11]),([1,2,0,1,2,3,4,5,6,7,8,9,10,11,12],[1,2]),([13,0,1,2,3,4,5,6,7,8,9,10,11,12],[13]),([14,0,1,2,3,4,5,6,7,8,9,10,11,12],[14]),([15,12,0,1,2,3,4,5,6,7,8,9,10,11,12],[12,15])])
def rW.B9:List Nat:=[0,1,0,0,8,0,56,120,248,504,0,2040,4088,8191,16383,32767,65535]
theorem rW.tab9:jm .any (opsOf Tryz.f92 9)=rW.T9:=by kernel_rfl
theorem rW.bits9:fQ rW.T9.2 rW.B9=true:=by kernel_rfl
theorem Ta{b N C:Nat}{w:World}{M:Nat→Nat→Prop}{x0:Bool}{v1:Value}{x2:Int}{v3:Value}{x4:Int}{x5:ByteArray}{v6:Value}{x7 x8:Int}{v9:Value}{x10:Bool}{f0:Int}{f1:Bool}{f2:Int}{f3:ByteArray}(hw:TW b M w)(hb0:b≤w.heap.size)(E:ET b M w N C v1 x2 v3 x4 x5 v6 v9)(hN:N≤3000000)(hf:f0=8→1≤f3.size):Calls Tryz.prog 92 #[.agg (eC x0 v1 x2 v3 x4 x5 v6 x7 x8 v9 x10).toArray,.agg (fC f0 f1 f2 f3).toArray] w (a2f b M w (fun q=>eC x0 v1 x2 v3 x4 x5 v6 x7 q v9 x10)):=by
 obtain⟨A1,n1,c1,A3,n3,c3,A6,n6,c6,A9,n9,c9,rfl,rfl,rfl,rfl,Qg,Qh⟩:=E.form4
 have HW:ah (LW b NX M w [] (xw b N C (.slice A1 n1 c1) x2 (.slice A3 n3 c3) x4 x5 (.slice A6 n6 c6) (.slice A9 n9 c9)) M w):=⟨LW.start hw E (Mon.et _ _ _ _ _ _ _ _ _)⟩
 clear hw E
 go_enter Tryz.func92,Tryz.ntmps92
 go_upto_if 9 with(first|((with_reducible refine gd 2 rfl ?_);refine lbx (N:=2) (t:=31) HW (eC x0 (.slice A1 n1 c1) x2 (.slice A3 n3 c3) x4 x5 (.slice A6 n6 c6) x7 x8 (.slice A9 n9 c9) x10) ?_;clear HW;intro g2 pF HW)|((with_reducible refine gd 3 rfl ?_);refine lbx (N:=3) (t:=42) HW (fC f0 f1 f2 f3) ?_;clear HW;intro g3 xG HW)|((with_reducible refine gd 4 rfl ?_);refine lbx (N:=4) (t:=31) HW zE ?_;clear HW;intro g4 AX HW)|((with_reducible refine gd 8 rfl ?_);refine lls HW 1 0 (.int .i64 f0) Tryz.underlying3 ?_))
 by_cases vw:f0=8
 ·skip
  subst vw
  go_upto_region 3 with(fail)
  have hf0:0<f3.size:=hf rfl
  go_upto_if 17 with(first|((with_reducible refine gd 12 rfl ?_);refine lls HW 1 3 (.string f3) Tryz.underlying9 ?_)|((with_reducible refine gd 16 rfl ?_);refine lls HW 1 2 (.int .i64 f2) Tryz.underlying3 ?_))
  by_cases c105:f2=0
  ·skip
   subst c105
   go_wp2_with (first|((with_reducible refine gd 20 rfl ?_);refine lls HW 2 8 (.int .i64 x8) Tryz.underlying3 ?_)|((with_reducible refine gd 23 rfl ?_);refine RD _ _ ?_;intro aGx azT azU azV)|((with_reducible refine aj (t:=3) (p:=25) rfl ?_);refine mP HW 2 8 (.int .i64 aGx) (eC _ _ _ _ _ _ _ _ _ _ _) ([_]) ?_ (fP rfl);clear HW;intro vZ HW;(try simp only[List.set_cons_zero,List.set_cons_succ]at HW))|((with_reducible refine gd 26 rfl ?_);refine lE HW 2 0 ?_)|((with_reducible refine aj (t:=31) (p:=4) rfl ?_);refine iA HW 0 ?_;clear HW;intro AU HW;(try simp only[List.set_cons_zero,List.set_cons_succ]at HW)))
   refine bodyPost_ret (results_cell_row rfl _ _ g4 31 (eC _ _ _ _ _ _ _ _ _ _ _).toArray (0,0) _ rfl (HW.out.at 0 rfl) Tryz.underlying31 rfl (by kernel_rfl)) rfl ?_
   exact⟨_,_,rfl,HW.out.ts⟩
  ·skip
   have Iq:(f2==0)=false:=beq_eq_false_iff_ne.mpr c105
   have ad8:(f2 != 0)=true:=bne_iff_ne.mpr c105
   go_upto_if 32 with(first|((with_reducible refine gd 27 rfl ?_);refine lE HW 2 0 ?_)|((with_reducible refine gd 29 rfl ?_);refine lls HW 1 2 (.int .i64 f2) Tryz.underlying3 ?_)|((with_reducible refine gq 49 rfl ?_);refine gl (some 30) Tryz.func49 #[(.agg (eC _ _ _ _ _ _ _ _ _ _ _).toArray),(.int .i64 f2)] ?_;with_reducible refine(Ig f2 HW.out.ts.tw (N:=N) (C:=C) (HW.out.g.up (by omega)) (by omega)).mono ?_;rintro e Fz ⟨a3a,rfl,aGy,aGz,hb⟩;refine⟨_,rfl,?_⟩;replace HW:=ah.mk (HW.out.quiet hb);clear hb))
   by_cases Ce:a3a≥0
   ·skip
    have PG:=decide_eq_true Ce
    go_upto_region 9 with(fail)
    have Fx:=(show 0≤a3a∧a3a<(n6:Int)from⟨by omega,by omega⟩)
    obtain⟨a2p,a2q,_,_⟩:=SL.has (HW.out.g.s6) (by omega)
    subst a2q
    obtain⟨s0_e,s1_e,u2_e,s3_e,s4_e,s5_e,s6_e,u7_e,s8_e,s9_e,s10_e,s11_e,PI,uO⟩:=HW.out.rd39 (HW.out.g.s6) (i:=a3a) (by omega) (by omega)
    obtain⟨A2_e,n2_e,d2_e,A7_e,n7_e,d7_e,yS,Cf⟩:=uO.form
    subst yS Cf
    replace HW:=ah.mk (LW.fact (H:=Ih b (.slice A2_e n2_e d2_e) s3_e s6_e (.slice A7_e n7_e d7_e) s8_e) HW.out uO (Mon.st _ _ _ _ _))
    clear uO
    have Yt:=eq_true Fx.1
    have Yu:=eq_true Fx.2
    refine nA HW (fun W=>W.rangeAt a2p (a3a.toNat*12) (sC s0_e s1_e (.slice A2_e n2_e d2_e) s3_e s4_e s5_e s6_e (.slice A7_e n7_e d7_e) s8_e s9_e s10_e s11_e)) [16] 17 (PI) (fun AV HN hHeld=>?_)
    replace HW:=HN
    clear HN
    refine bR rW.tab9 rW.bits9 (fun HT_ HW_=>?_)
    refine pw 0 (some 33) rfl rfl ?_
    refine tk 1 (some 34) (bm 17 3) rfl rfl hHeld ?_ (hy:=jQ _ 2 6 (.slice (some ⟨a2p,0,none⟩) n6 c6) Tryz.underlying26)
    refine pw 2 (some 35) rfl rfl ?_
    refine pw 3 (some 36) rfl rfl ?_
    refine tk 4 (some 37) (bm 17 31) rfl rfl hHeld ?_ (hy:=jQ _ 2 6 (.slice (some ⟨a2p,0,none⟩) n6 c6) Tryz.underlying26)
    refine pw 5 (some 38) rfl rfl ?_
    refine pw 6 (some 39) rfl rfl ?_
    refine pw 7 (some 40) rfl rfl ?_
    refine pw 8 (some 41) rfl rfl ?_
    refine tk 9 (some 42) (bm 17 1023) rfl rfl hHeld ?_ (hy:=CS (.int .i64 s11_e) (fun W h=>((fun W h=>h)) W h 11 _ rfl) Tryz.underlying3)
    refine pw 10 (some 43) rfl rfl ?_
    refine pw 11 (some 44) rfl rfl ?_
    refine pw 12 (some 45) rfl rfl ?_
    generalize(if((31:Int)<_)then(31:Int)else _)=SY
    refine pw 13 (some 46) rfl rfl ?_
    refine pw 14 (some 47) rfl rfl ?_
    refine pw 15 (some 48) rfl rfl ?_
    refine kJ (i:=16) (N:=none) (bm 17 131071) rfl rfl (bL HT_.out (by kernel_rfl)) (by decide) (fun K hK=>?_)
    refine gF (by rfl) ?_
    refine a2b HW (HW.out.g.1.s6) Fx.1 Fx.2 11 (by decide) ?_
    clear HW
    intro yO HW
    (try simp only[List.set_cons_zero,List.set_cons_succ]at HW)
    refine hK.out _ _ ?_
    clear hK K
    refine fw (dM HT_.out (by kernel_rfl)) ?_
    clear HT_ HW_
    go_wp2_with (first|((with_reducible refine gd 49 rfl ?_);refine lE HW 2 0 ?_)|((with_reducible refine aj (t:=31) (p:=4) rfl ?_);refine iA HW 0 ?_;clear HW;intro yL HW;(try simp only[List.set_cons_zero,List.set_cons_succ]at HW)))
    refine bodyPost_ret (results_cell_row rfl _ _ g4 31 (eC _ _ _ _ _ _ _ _ _ _ _).toArray (0,0) _ rfl (HW.out.at 0 rfl) Tryz.underlying31 rfl (by kernel_rfl)) rfl ?_
    exact⟨_,_,rfl,HW.out.ts⟩
   ·skip
    have PG:=decide_eq_false Ce
    go_wp2_with (first|((with_reducible refine gd 49 rfl ?_);refine lE HW 2 0 ?_)|((with_reducible refine aj (t:=31) (p:=4) rfl ?_);refine iA HW 0 ?_;clear HW;intro yM HW;(try simp only[List.set_cons_zero,List.set_cons_succ]at HW)))
    refine bodyPost_ret (results_cell_row rfl _ _ g4 31 (eC _ _ _ _ _ _ _ _ _ _ _).toArray (0,0) _ rfl (HW.out.at 0 rfl) Tryz.underlying31 rfl (by kernel_rfl)) rfl ?_
    exact⟨_,_,rfl,HW.out.ts⟩
 ·skip
  have Q0:(f0==8)=false:=beq_eq_false_iff_ne.mpr vw
  have a2H:(f0 != 8)=true:=bne_iff_ne.mpr vw
  go_wp2_with (first|((with_reducible refine gd 10 rfl ?_);refine lE HW 2 0 ?_)|((with_reducible refine aj (t:=31) (p:=4) rfl ?_);refine iA HW 0 ?_;clear HW;intro xI HW;(try simp only[List.set_cons_zero,List.set_cons_succ]at HW)))
  refine bodyPost_ret (results_cell_row rfl _ _ g4 31 (eC _ _ _ _ _ _ _ _ _ _ _).toArray (0,0) _ rfl (HW.out.at 0 rfl) Tryz.underlying31 rfl (by kernel_rfl)) rfl ?_
  exact⟨_,_,rfl,HW.out.ts⟩
def wz.T16:Bool×List (List Nat×List Nat):=(true,[([],[]),([],[]),([1],[1]),([],[]),([3],[3]),([],[]),([5],[5]),([],[]),([7],[7]),([],[]),([9],[9]),([],[]),([10,11],[10,11]),([6,8,12],[6,8,12]),([2,4,13],[2,4,13]),([14],[14]),([0,15],[0,15]),([16,15,0,1,2,3,4,5,6,7,8,9,10,11,12,13,14,15,16],[0,16])])
def wz.B16:List Nat:=[0,0,2,0,8,0,32,0,128,0,512,0,3584,8160,16382,32766,65535,131071]
theorem wz.tab16:jm .any (opsOf Tryz.f94 16)=wz.T16:=by kernel_rfl
theorem wz.bits16:fQ wz.T16.2 wz.B16=true:=by kernel_rfl
theorem Yh{b N C:Nat}{w:World}{M:Nat→Nat→Prop}{x0:Bool}{v1:Value}{x2:Int}{v3:Value}{x4:Int}{x5:ByteArray}{v6:Value}{x7 x8:Int}{v9:Value}{x10:Bool}{k:Int}(hw:TW b M w)(hb0:b≤w.heap.size)(E:ET b M w N C v1 x2 v3 x4 x5 v6 v9)(hN:N≤3000000)(hk:∀A n c,v6= .slice A n c→0≤k∧k<(n:Int)):Calls Tryz.prog 94 #[.agg (eC x0 v1 x2 v3 x4 x5 v6 x7 x8 v9 x10).toArray,.int .i64 k] w (Kz b M w N C 600):=by
 obtain⟨A1,n1,c1,A3,n3,c3,A6,n6,c6,A9,n9,c9,rfl,rfl,rfl,rfl,Qg,Qh⟩:=E.form4
 obtain⟨hk0,hk1⟩:=hk _ _ _ rfl
 have HW:ah (LW b NX M w [] (xw b N C (.slice A1 n1 c1) x2 (.slice A3 n3 c3) x4 x5 (.slice A6 n6 c6) (.slice A9 n9 c9)) M w):=⟨LW.start hw E (Mon.et _ _ _ _ _ _ _ _ _)⟩
 clear hw E
 go_enter Tryz.func94,Tryz.ntmps94
 go_upto_region 1 with(first|((with_reducible refine gd 2 rfl ?_);refine lbx (N:=2) (t:=31) HW (eC x0 (.slice A1 n1 c1) x2 (.slice A3 n3 c3) x4 x5 (.slice A6 n6 c6) x7 x8 (.slice A9 n9 c9) x10) ?_;clear HW;intro g2 pF HW)|((with_reducible refine gd 4 rfl ?_);refine lbx (N:=4) (t:=31) HW zE ?_;clear HW;intro g4 xG HW))
 have rX:=(show 0≤k∧k<(n6:Int)from⟨by omega,by omega⟩)
 obtain⟨Bb,aqf,_,_⟩:=SL.has (HW.out.g.s6) (by omega)
 subst aqf
 obtain⟨s0_e,s1_e,u2_e,s3_e,s4_e,s5_e,s6_e,u7_e,s8_e,s9_e,s10_e,s11_e,PI,uO⟩:=HW.out.rd39 (HW.out.g.s6) (i:=k) (by omega) (by omega)
 obtain⟨A2_e,n2_e,d2_e,A7_e,n7_e,d7_e,yS,Cf⟩:=uO.form
 subst yS Cf
 replace HW:=ah.mk (LW.fact (H:=Ih b (.slice A2_e n2_e d2_e) s3_e s6_e (.slice A7_e n7_e d7_e) s8_e) HW.out uO (Mon.st _ _ _ _ _))
 clear uO
 have Yt:=eq_true rX.1
 have Yu:=eq_true rX.2
 have aGA:=HW.out.g.2.s0
 have Gv:=HW.out.g.2.s1
 have KU:=HW.out.g.2.s3
 have aGB:=HW.out.g.2.s8
 go_upto_region 3 with(first|((with_reducible refine gd 12 rfl ?_);refine lls HW 1 6 (.slice (some ⟨Bb,0,none⟩) n6 c6) Tryz.underlying26 ?_)|((with_reducible refine gd 15 rfl ?_);refine lrw (cs:=sC s0_e s1_e (.slice A2_e n2_e d2_e) s3_e s4_e s5_e s6_e (.slice A7_e n7_e d7_e) s8_e s9_e s10_e s11_e) PI Tryz.underlying39 ?_)|((with_reducible refine gd 6 rfl ?_);refine lbx (N:=6) (t:=39) HW zS ?_;clear HW;intro g6 Ca HW)|((with_reducible refine aj (t:=39) (p:=6) rfl ?_);refine iA HW 0 ?_;clear HW;intro xH HW;(try simp only[List.set_cons_zero,List.set_cons_succ]at HW)))
 by_cases yP:s1_e=1
 ·skip
  subst yP
  by_cases c107:(n2_e:Int)=0
  ·skip
   have PY:((n2_e:Int)==0)=true:=beq_iff_eq.mpr c107
   have aqg:((n2_e:Int) != 0)=false:=bne_eq_false_iff_eq.mpr c107
   have aOw:=ah.mk c107
   clear c107
   have aqc:=HW.out.cell (v:=(.slice A2_e n2_e d2_e)) 0 2
   go_wp2_with (first|((with_reducible refine gd 17 rfl ?_);refine lls HW 0 1 (.int .i64 1) Tryz.underlying3 ?_)|((with_reducible refine gd 29 rfl ?_);refine lE HW 2 0 ?_)|((with_reducible refine aj (t:=31) (p:=4) rfl ?_);refine iA HW 1 ?_;clear HW;intro AQ HW;(try simp only[List.set_cons_zero,List.set_cons_succ]at HW)))
   refine bodyPost_ret (fu rfl _ _ g4 31 (eC _ _ _ _ _ _ _ _ _ _ _).toArray (0,0) _ rfl (HW.out.at 1 rfl) Tryz.underlying31 rfl (by kernel_rfl)) rfl ?_
   exact⟨_,_,_,rfl,HW.out.ts,⟨_,_,_,_,_,_,_,_,_,_,_,rfl,(HW.out.g.1.up (by omega))⟩,(by first|omega|decide)⟩
  ·skip
   have PY:((n2_e:Int)==0)=false:=beq_eq_false_iff_ne.mpr c107
   have aqg:((n2_e:Int) != 0)=true:=bne_iff_ne.mpr c107
   have aOx:=HW.out.cell (v:=(.slice A2_e n2_e d2_e)) 0 2
   have aOy:=HW.out.cell (v:=(.bool s5_e)) 0 5
   go_upto_if 28 with(first|((with_reducible refine gd 17 rfl ?_);refine lls HW 0 1 (.int .i64 1) Tryz.underlying3 ?_))
   cases s5_e with
   |true=>
    go_wp2_with (first|((with_reducible refine gd 29 rfl ?_);refine lE HW 2 0 ?_)|((with_reducible refine aj (t:=31) (p:=4) rfl ?_);refine iA HW 1 ?_;clear HW;intro AV HW;(try simp only[List.set_cons_zero,List.set_cons_succ]at HW)))
    refine bodyPost_ret (fu rfl _ _ g4 31 (eC _ _ _ _ _ _ _ _ _ _ _).toArray (0,0) _ rfl (HW.out.at 1 rfl) Tryz.underlying31 rfl (by kernel_rfl)) rfl ?_
    exact⟨_,_,_,rfl,HW.out.ts,⟨_,_,_,_,_,_,_,_,_,_,_,rfl,(HW.out.g.1.up (by omega))⟩,(by first|omega|decide)⟩
   |false=>
    go_upto_if 33 with(first|((with_reducible refine gd 32 rfl ?_);refine lls HW 0 4 (.bool s4_e) Tryz.underlying4 ?_))
    go_cut [7] (fun y7 wq=>∃(Mq:Nat→Nat→Prop)(A1q:Option Addr)(n1q:Nat)(c1q:Nat)(s5q:Bool)(oq:ByteArray),(y7= .string oq)∧(oq.size≤300)∧ah (LW b NX M w [⟨g6,sC s0_e 1 (.slice A2_e n2_e d2_e) s3_e true s5q s6_e (.slice A7_e n7_e d7_e) s8_e s9_e s10_e s11_e,39⟩,⟨g4,eC false (.slice none 0 0) 0 (.slice none 0 0) 0 (⟨#[]⟩:ByteArray) (.slice none 0 0) 0 0 (.slice none 0 0) false,31⟩,⟨g2,eC x0 (.slice A1q n1q c1q) x2 (.slice A3 n3 c3) x4 x5 (.slice (some ⟨Bb,0,none⟩) n6 c6) x7 x8 (.slice A9 n9 c9) x10,31⟩] (fun M w=>(((xw b N C (.slice A1 n1 c1) x2 (.slice A3 n3 c3) x4 x5 (.slice (some ⟨Bb,0,none⟩) n6 c6) (.slice A9 n9 c9)) M w)∧(Ih b (.slice A2_e n2_e d2_e) s3_e s6_e (.slice A7_e n7_e d7_e) s8_e) M w)∧(TVF b (.slice A1q n1q c1q) x2) M w) Mq wq))
    case first=>
     cases s4_e with
     |true=>
      go_wp2_with (fail)
      go_meet
      exact⟨_,_,_,_,_,_,rfl,(show _≤300 from by decide),⟨LW.less HW.out ⟨⟨(HW.out.g.1.up (by omega)),HW.out.g.2⟩,HW.out.g.1.t1⟩ (Mon.and (Mon.and (Mon.et _ _ _ _ _ _ _ _ _) (Mon.st _ _ _ _ _)) (Mon.tv _ _))⟩⟩
     |false=>
      go_wp2_with (first|((with_reducible refine gd 36 rfl ?_);refine uN HW 2 1 (tC _ _) Tryz.underlying25 ?_)|((with_reducible refine gd 38 rfl ?_);refine lls HW 0 2 (.slice A2_e n2_e d2_e) Tryz.underlying23 ?_)|((with_reducible refine gq 96 rfl ?_);refine gl (some 39) Tryz.func96 #[(.agg (tC _ _).toArray),(.slice A2_e n2_e d2_e)] ?_;with_reducible refine(Yb _ _ _ HW.out.ts.tw (HW.out.hb hb0) HW.out.g.1.t1 HW.out.g.2.h2).mono ?_;rintro e yO ⟨aqh,aqi,aqj,aqk,rfl,gQ,aOz,hb⟩;refine⟨_,rfl,?_⟩;replace HW:=ah.mk (LW.fact (H:=TVF b (.slice aqh aqi aqj) x2) (HW.out.quiet hb) gQ (Mon.tv _ _));clear gQ hb)|((with_reducible refine gd 8 rfl ?_);refine lbx (N:=8) (t:=25) HW (tC (.slice none 0 0) 0) ?_;clear HW;intro g8 yL HW)|((with_reducible refine aj (t:=25) (p:=8) rfl ?_);refine iA HW 0 ?_;clear HW;intro yM HW;(try simp only[List.set_cons_zero,List.set_cons_succ]at HW))|((with_reducible refine gd 42 rfl ?_);refine uN HW 0 0 (tC _ _) Tryz.underlying25 ?_)|((with_reducible refine aj (t:=25) (p:=43) rfl ?_);refine mP HW 3 1 (.agg (tC _ _).toArray) (eC _ _ _ _ _ _ _ _ _ _ _) (tC _ _) ?_ (fP rfl);clear HW;intro xI HW;(try simp only[List.set_cons_zero,List.set_cons_succ]at HW))|((with_reducible refine aj (t:=4) (p:=44) rfl ?_);refine mP HW 1 4 (.bool true) (sC _ _ _ _ _ _ _ _ _ _ _ _) ([_]) ?_ (fP rfl);clear HW;intro Cc HW;(try simp only[List.set_cons_zero,List.set_cons_succ]at HW))|((with_reducible refine gd 46 rfl ?_);refine lls HW 1 3 (.string s3_e) Tryz.underlying9 ?_)|((with_reducible refine aj (t:=4) (p:=48) rfl ?_);refine lsb HW 1 5 (fun q=>sC s0_e 1 (.slice A2_e n2_e d2_e) s3_e true q s6_e (.slice A7_e n7_e d7_e) s8_e s9_e s10_e s11_e) ?_;intro a2t yN HN;(try simp only[List.set_cons_zero,List.set_cons_succ]at HN);replace HW:=HN;clear HN)|((with_reducible refine gd 50 rfl ?_);refine lls HW 1 5 (.bool a2t) Tryz.underlying4 ?_)|((with_reducible refine gd 52 rfl ?_);refine lls HW 1 0 (.int .i64 s0_e) Tryz.underlying3 ?_)|((with_reducible refine gq 93 rfl ?_);refine gl (some 55) Tryz.func93 #[(.agg (fC _ _ _ _).toArray)] ?_;with_reducible refine(KE 1 a2t s0_e aqk (by omega)).mono ?_;rintro e Gu ⟨aOA,rfl,Lf,hb⟩;refine⟨_,rfl,?_⟩;replace Lf:=ah.mk Lf;replace HW:=ah.mk (HW.out.quiet hb);clear hb))
      go_meet
      exact⟨_,_,_,_,_,_,rfl,(show _≤300 from by have:=Lf.out;omega),⟨LW.less HW.out.drop ⟨⟨(HW.out.g.1.1.up (by omega)),HW.out.g.1.2⟩,HW.out.g.2⟩ (Mon.and (Mon.and (Mon.et _ _ _ _ _ _ _ _ _) (Mon.st _ _ _ _ _)) (Mon.tv _ _))⟩⟩
    case rest=>
     obtain⟨Mq,A1q,n1q,c1q,s5q,oq,rfl,aOB,HC⟩:=hcut
     try clear HW
     have HW:=HC
     clear HC
     go_upto_region 12 with(first|((with_reducible refine gd 57 rfl ?_);refine lls HW 0 3 (.string s3_e) Tryz.underlying9 ?_)|((with_reducible refine gd 60 rfl ?_);refine lls HW 0 6 (.int .i64 s6_e) Tryz.underlying3 ?_)|((with_reducible refine gd 64 rfl ?_);refine lls HW 0 10 (.int .i64 s10_e) Tryz.underlying3 ?_)|((with_reducible refine gd 67 rfl ?_);refine lls HW 2 7 (.int .i64 x7) Tryz.underlying3 ?_)|((with_reducible refine gd 68 rfl ?_);refine aDF _ _ _ ?_;intro Ch azW azX azY))
     cases s5q with
     |true=>
      go_upto_if 75 with(first|((with_reducible refine gd 70 rfl ?_);refine lls HW 0 5 (.bool true) Tryz.underlying4 ?_))
      go_cut [7] (fun y7 wq=>∃(Mq:Nat→Nat→Prop)(x7q:Int)(s5z:Bool)(s6z:Int)(s10z:Int)(oz:ByteArray),(y7= .string oz)∧(oz.size≤600)∧ah (LW b NX M w [⟨g6,sC s0_e 1 (.slice A2_e n2_e d2_e) s3_e true s5z s6z (.slice A7_e n7_e d7_e) s8_e s9_e s10z s11_e,39⟩,⟨g4,eC false (.slice none 0 0) 0 (.slice none 0 0) 0 (⟨#[]⟩:ByteArray) (.slice none 0 0) 0 0 (.slice none 0 0) false,31⟩,⟨g2,eC x0 (.slice A1q n1q c1q) x2 (.slice A3 n3 c3) x4 x5 (.slice (some ⟨Bb,0,none⟩) n6 c6) x7q x8 (.slice A9 n9 c9) x10,31⟩] (fun M w=>((((xw b N C (.slice A1 n1 c1) x2 (.slice A3 n3 c3) x4 x5 (.slice (some ⟨Bb,0,none⟩) n6 c6) (.slice A9 n9 c9)) M w)∧(Ih b (.slice A2_e n2_e d2_e) s3_e s6_e (.slice A7_e n7_e d7_e) s8_e) M w)∧(TVF b (.slice A1q n1q c1q) x2) M w)∧(Ih b (.slice A2_e n2_e d2_e) s3_e s6z (.slice A7_e n7_e d7_e) s8_e) M w) Mq wq))
      case first=>
       go_wp2_with (fail)
       go_meet
       exact⟨_,_,_,_,_,_,rfl,(show _≤600 from by first|omega|decide),⟨LW.less HW.out ⟨⟨⟨(HW.out.g.1.1.up (by omega)),HW.out.g.1.2⟩,HW.out.g.2⟩,HW.out.g.1.2⟩ (Mon.and (Mon.and (Mon.and (Mon.et _ _ _ _ _ _ _ _ _) (Mon.st _ _ _ _ _)) (Mon.tv _ _)) (Mon.st _ _ _ _ _))⟩⟩
      case rest=>
       obtain⟨Mq,x7q,s5z,s6z,s10z,oz,rfl,adf,HC⟩:=hcut
       try clear HW
       have HW:=HC
       clear HC
       go_upto_region 18 with(fail)
       cases x0 with
       |true=>
        have aOC:=HW.out.cell (v:=(.bool s5z)) 0 5
        go_upto_if 126 with(first|((with_reducible refine gd 122 rfl ?_);refine lls HW 2 0 (.bool true) Tryz.underlying4 ?_))
        cases s5z with
        |true=>
         go_wp2_with (first|((with_reducible refine aj (t:=3) (p:=127) rfl ?_);refine mP HW 0 1 (.int .i64 2) (sC _ _ _ _ _ _ _ _ _ _ _ _) ([_]) ?_ (fP rfl);clear HW;intro PO HW;(try simp only[List.set_cons_zero,List.set_cons_succ]at HW))|((with_reducible refine gd 129 rfl ?_);refine lls HW 2 6 (.slice (some ⟨Bb,0,none⟩) n6 c6) Tryz.underlying26 ?_)|((with_reducible refine gd 131 rfl ?_);refine lS HW 0 0 ?_)|((with_reducible refine aj (t:=39) (p:=132) rfl ?_);have hS_:ST b _ (.slice A2_e n2_e d2_e) s3_e s6z (.slice A7_e n7_e d7_e) s8_e:=HW.out.g.2;refine Yr HW (HW.out.g.1.1.1.s6) rX.1 rX.2 hS_ ?_;clear HW;intro aal HW;(try simp only[List.set_cons_zero,List.set_cons_succ]at HW);clear hS_)|((with_reducible refine gd 133 rfl ?_);refine lE HW 2 0 ?_)|((with_reducible refine aj (t:=31) (p:=4) rfl ?_);refine iA HW 1 ?_;clear HW;intro a2y HW;(try simp only[List.set_cons_zero,List.set_cons_succ]at HW)))
         refine bodyPost_ret (fu rfl _ _ g4 31 (eC _ _ _ _ _ _ _ _ _ _ _).toArray (0,0) _ rfl (HW.out.at 1 rfl) Tryz.underlying31 rfl (by kernel_rfl)) rfl ?_
         exact⟨_,_,_,rfl,HW.out.ts,⟨_,_,_,_,_,_,_,_,_,_,_,rfl,⟨HW.out.g.1.2,HW.out.g.1.1.1.t3,HW.out.g.1.1.1.c5,(HW.out.g.1.1.1.s6.mono (N':=N) (by omega)),(HW.out.g.1.1.1.s9.mono (N':=N) (by omega))⟩⟩,(by first|omega|decide)⟩
        |false=>
         go_wp2_with (first|((with_reducible refine gd 129 rfl ?_);refine lls HW 2 6 (.slice (some ⟨Bb,0,none⟩) n6 c6) Tryz.underlying26 ?_)|((with_reducible refine gd 131 rfl ?_);refine lS HW 0 0 ?_)|((with_reducible refine aj (t:=39) (p:=132) rfl ?_);have hS_:ST b _ (.slice A2_e n2_e d2_e) s3_e s6z (.slice A7_e n7_e d7_e) s8_e:=HW.out.g.2;refine Yr HW (HW.out.g.1.1.1.s6) rX.1 rX.2 hS_ ?_;clear HW;intro a2z HW;(try simp only[List.set_cons_zero,List.set_cons_succ]at HW);clear hS_)|((with_reducible refine gd 133 rfl ?_);refine lE HW 2 0 ?_)|((with_reducible refine aj (t:=31) (p:=4) rfl ?_);refine iA HW 1 ?_;clear HW;intro aac HW;(try simp only[List.set_cons_zero,List.set_cons_succ]at HW)))
         refine bodyPost_ret (fu rfl _ _ g4 31 (eC _ _ _ _ _ _ _ _ _ _ _).toArray (0,0) _ rfl (HW.out.at 1 rfl) Tryz.underlying31 rfl (by kernel_rfl)) rfl ?_
         exact⟨_,_,_,rfl,HW.out.ts,⟨_,_,_,_,_,_,_,_,_,_,_,rfl,⟨HW.out.g.1.2,HW.out.g.1.1.1.t3,HW.out.g.1.1.1.c5,(HW.out.g.1.1.1.s6.mono (N':=N) (by omega)),(HW.out.g.1.1.1.s9.mono (N':=N) (by omega))⟩⟩,(by first|omega|decide)⟩
       |false=>
        go_wp2_with (first|((with_reducible refine gd 122 rfl ?_);refine lls HW 2 0 (.bool false) Tryz.underlying4 ?_)|((with_reducible refine gd 129 rfl ?_);refine lls HW 2 6 (.slice (some ⟨Bb,0,none⟩) n6 c6) Tryz.underlying26 ?_)|((with_reducible refine gd 131 rfl ?_);refine lS HW 0 0 ?_)|((with_reducible refine aj (t:=39) (p:=132) rfl ?_);have hS_:ST b _ (.slice A2_e n2_e d2_e) s3_e s6z (.slice A7_e n7_e d7_e) s8_e:=HW.out.g.2;refine Yr HW (HW.out.g.1.1.1.s6) rX.1 rX.2 hS_ ?_;clear HW;intro a2A HW;(try simp only[List.set_cons_zero,List.set_cons_succ]at HW);clear hS_)|((with_reducible refine gd 133 rfl ?_);refine lE HW 2 0 ?_)|((with_reducible refine aj (t:=31) (p:=4) rfl ?_);refine iA HW 1 ?_;clear HW;intro aq0 HW;(try simp only[List.set_cons_zero,List.set_cons_succ]at HW)))
        refine bodyPost_ret (fu rfl _ _ g4 31 (eC _ _ _ _ _ _ _ _ _ _ _).toArray (0,0) _ rfl (HW.out.at 1 rfl) Tryz.underlying31 rfl (by kernel_rfl)) rfl ?_
        exact⟨_,_,_,rfl,HW.out.ts,⟨_,_,_,_,_,_,_,_,_,_,_,rfl,⟨HW.out.g.1.2,HW.out.g.1.1.1.t3,HW.out.g.1.1.1.c5,(HW.out.g.1.1.1.s6.mono (N':=N) (by omega)),(HW.out.g.1.1.1.s9.mono (N':=N) (by omega))⟩⟩,(by first|omega|decide)⟩
     |false=>
      go_upto_if 75 with(first|((with_reducible refine gd 70 rfl ?_);refine lls HW 0 5 (.bool false) Tryz.underlying4 ?_))
      go_cut [7] (fun y7 wq=>∃(Mq:Nat→Nat→Prop)(x7q:Int)(s5z:Bool)(s6z:Int)(s10z:Int)(oz:ByteArray),(y7= .string oz)∧(oz.size≤600)∧ah (LW b NX M w [⟨g6,sC s0_e 1 (.slice A2_e n2_e d2_e) s3_e true s5z s6z (.slice A7_e n7_e d7_e) s8_e s9_e s10z s11_e,39⟩,⟨g4,eC false (.slice none 0 0) 0 (.slice none 0 0) 0 (⟨#[]⟩:ByteArray) (.slice none 0 0) 0 0 (.slice none 0 0) false,31⟩,⟨g2,eC x0 (.slice A1q n1q c1q) x2 (.slice A3 n3 c3) x4 x5 (.slice (some ⟨Bb,0,none⟩) n6 c6) x7q x8 (.slice A9 n9 c9) x10,31⟩] (fun M w=>((((xw b N C (.slice A1 n1 c1) x2 (.slice A3 n3 c3) x4 x5 (.slice (some ⟨Bb,0,none⟩) n6 c6) (.slice A9 n9 c9)) M w)∧(Ih b (.slice A2_e n2_e d2_e) s3_e s6_e (.slice A7_e n7_e d7_e) s8_e) M w)∧(TVF b (.slice A1q n1q c1q) x2) M w)∧(Ih b (.slice A2_e n2_e d2_e) s3_e s6z (.slice A7_e n7_e d7_e) s8_e) M w) Mq wq))
      case first=>
       by_cases c138:Ch>0
       ·skip
        have aql:=decide_eq_true c138
        go_upto_region 16 with(first|((with_reducible refine gd 78 rfl ?_);refine lls HW 0 10 (.int .i64 s10_e) Tryz.underlying3 ?_)|((with_reducible refine aj (t:=3) (p:=82) rfl ?_);refine lsi HW 0 10 (fun q=>sC s0_e 1 (.slice A2_e n2_e d2_e) s3_e true false s6_e (.slice A7_e n7_e d7_e) s8_e s9_e q s11_e) ?_;intro aGC apK HN;(try simp only[List.set_cons_zero,List.set_cons_succ]at HN);replace HW:=HN;clear HN)|((with_reducible refine gd 85 rfl ?_);refine lls HW 2 7 (.int .i64 x7) Tryz.underlying3 ?_)|((with_reducible refine aj (t:=3) (p:=89) rfl ?_);refine lsi HW 2 7 (fun q=>eC x0 (.slice A1q n1q c1q) x2 (.slice A3 n3 c3) x4 x5 (.slice (some ⟨Bb,0,none⟩) n6 c6) q x8 (.slice A9 n9 c9) x10) ?_;intro aSB agX HN;(try simp only[List.set_cons_zero,List.set_cons_succ]at HN);replace HW:=HN;clear HN)|((with_reducible refine gd 91 rfl ?_);refine lls HW 0 6 (.int .i64 s6_e) Tryz.underlying3 ?_)|((with_reducible refine gd 95 rfl ?_);refine lls HW 0 3 (.string s3_e) Tryz.underlying9 ?_)|((with_reducible refine aj (t:=4) (p:=98) rfl ?_);refine lsb HW 0 5 (fun q=>sC s0_e 1 (.slice A2_e n2_e d2_e) s3_e true q s6_e (.slice A7_e n7_e d7_e) s8_e s9_e aGC s11_e) ?_;intro aqm aht HN;(try simp only[List.set_cons_zero,List.set_cons_succ]at HN);replace HW:=HN;clear HN))
        have aqn:=dP ((s3_e.size:Int)-s6_e) (by omega) (by omega)
        have aqo:=dP (s6_e+Ch) (by omega) (by omega)
        have aqp:0≤s6_e+Ch:=by omega
        have aqr:s6_e+Ch≤(s3_e.size:Int):=by omega
        have p1_:=eq_true aGA
        have p2_:=eq_true (show s6_e≤wrap64 (s6_e+Ch) by omega)
        have p3_:=eq_true (show wrap64 (s6_e+Ch)≤(s3_e.size:Int) by omega)
        have aSC:(s3_e.extract s6_e.toNat (wrap64 (s6_e+Ch)).toNat).size≤100:=by rw[ByteArray.size_extract];omega
        clear aqn aqo
        refine nA HW (fun _=>True) [15] 18 (trivial) (fun a9M HN hHeld=>?_)
        replace HW:=HN
        clear HN
        refine bR wz.tab16 wz.bits16 (fun HT_ HW_=>?_)
        refine pw 1 (some 100) rfl rfl ?_
        refine tk 2 (some 101) (bm 18 6) rfl rfl hHeld ?_ (hy:=jQ _ 0 5 (.bool aqm) Tryz.underlying4)
        refine pw 3 (some 102) rfl rfl ?_
        refine tk 4 (some 103) (bm 18 30) rfl rfl hHeld ?_ (hy:=jQ _ 0 0 (.int .i64 s0_e) Tryz.underlying3)
        refine pw 5 (some 104) rfl rfl ?_
        refine tk 6 (some 105) (bm 18 126) rfl rfl hHeld ?_ (hy:=jQ _ 0 3 (.string s3_e) Tryz.underlying9)
        refine pw 7 (some 106) rfl rfl ?_
        refine tk 8 (some 107) (bm 18 510) rfl rfl hHeld ?_ (hy:=jQ _ 0 6 (.int .i64 s6_e) Tryz.underlying3)
        refine pw 9 (some 108) rfl rfl ?_
        refine tk 10 (some 109) (bm 18 2046) rfl rfl hHeld ?_ (hy:=jQ _ 0 6 (.int .i64 s6_e) Tryz.underlying3)
        refine pw 11 (some 110) rfl rfl ?_
        refine pw 12 (some 111) rfl rfl ?_
        refine pw 13 (some 112) rfl rfl ?_
        refine pw 14 (some 113) rfl rfl ?_
        refine pw 0 (some 99) rfl rfl ?_
        refine kJ (i:=15) (N:=some 114) (bm 18 65535) rfl rfl (bL HT_.out (by kernel_rfl)) (by decide) (fun K hK=>?_)
        refine gs Tryz.func93 #[(.agg (fC _ _ _ _).toArray)] ?_
        with_reducible refine(KE 0 aqm s0_e (s3_e.extract s6_e.toNat (wrap64 (s6_e+Ch)).toNat) (by omega)).mono ?_
        rintro e a9P ⟨ads,rfl,Ec,hb⟩
        refine⟨_,rfl,?_⟩
        replace Ec:=ah.mk Ec
        replace HW:=ah.mk (HW.out.quiet hb)
        clear hb
        refine hK.out _ _ ?_
        clear hK K
        refine nm ?_
        have Sy:(9223372036854775807<oq.size+ads.size)=False:=eq_false (by have:=Ec.out;omega)
        have Yi:(oq++ads).size≤600:=by rw[bf];have:=Ec.out;omega
        refine pw 16 (some 115) rfl rfl ?_
        refine pw 17 (some 7) rfl rfl ?_
        refine fw (dM HT_.out (by kernel_rfl)) ?_
        clear HT_ HW_
        go_wp2_with (first|((with_reducible refine gd 117 rfl ?_);refine lls HW 0 6 (.int .i64 s6_e) Tryz.underlying3 ?_)|((with_reducible refine aj (t:=3) (p:=120) rfl ?_);refine mP HW 0 6 (.int .i64 (s6_e+Ch)) (sC _ _ _ _ _ _ _ _ _ _ _ _) ([_]) ?_ (fP rfl);clear HW;intro apr HW;(try simp only[List.set_cons_zero,List.set_cons_succ]at HW)))
        go_meet
        exact⟨_,_,_,_,_,_,rfl,(show _≤600 from by first|omega|decide),⟨LW.less HW.out ⟨⟨⟨(HW.out.g.1.1.up (by omega)),HW.out.g.1.2⟩,HW.out.g.2⟩,⟨HW.out.g.1.2.h2,HW.out.g.1.2.h7,aqp,aqr,KU,aGB⟩⟩ (Mon.and (Mon.and (Mon.and (Mon.et _ _ _ _ _ _ _ _ _) (Mon.st _ _ _ _ _)) (Mon.tv _ _)) (Mon.st _ _ _ _ _))⟩⟩
       ·skip
        have aql:=decide_eq_false c138
        go_wp2_with (fail)
        go_meet
        exact⟨_,_,_,_,_,_,rfl,(show _≤600 from by first|omega|decide),⟨LW.less HW.out ⟨⟨⟨(HW.out.g.1.1.up (by omega)),HW.out.g.1.2⟩,HW.out.g.2⟩,HW.out.g.1.2⟩ (Mon.and (Mon.and (Mon.and (Mon.et _ _ _ _ _ _ _ _ _) (Mon.st _ _ _ _ _)) (Mon.tv _ _)) (Mon.st _ _ _ _ _))⟩⟩
      case rest=>
       obtain⟨Mq,x7q,s5z,s6z,s10z,oz,rfl,aOD,HC⟩:=hcut
       try clear HW
       have HW:=HC
       clear HC
       go_upto_region 18 with(fail)
       cases x0 with
       |true=>
        have aOE:=HW.out.cell (v:=(.bool s5z)) 0 5
        go_upto_if 126 with(first|((with_reducible refine gd 122 rfl ?_);refine lls HW 2 0 (.bool true) Tryz.underlying4 ?_))
        cases s5z with
        |true=>
         go_wp2_with (first|((with_reducible refine aj (t:=3) (p:=127) rfl ?_);refine mP HW 0 1 (.int .i64 2) (sC _ _ _ _ _ _ _ _ _ _ _ _) ([_]) ?_ (fP rfl);clear HW;intro aai HW;(try simp only[List.set_cons_zero,List.set_cons_succ]at HW))|((with_reducible refine gd 129 rfl ?_);refine lls HW 2 6 (.slice (some ⟨Bb,0,none⟩) n6 c6) Tryz.underlying26 ?_)|((with_reducible refine gd 131 rfl ?_);refine lS HW 0 0 ?_)|((with_reducible refine aj (t:=39) (p:=132) rfl ?_);have hS_:ST b _ (.slice A2_e n2_e d2_e) s3_e s6z (.slice A7_e n7_e d7_e) s8_e:=HW.out.g.2;refine Yr HW (HW.out.g.1.1.1.s6) rX.1 rX.2 hS_ ?_;clear HW;intro a2D HW;(try simp only[List.set_cons_zero,List.set_cons_succ]at HW);clear hS_)|((with_reducible refine gd 133 rfl ?_);refine lE HW 2 0 ?_)|((with_reducible refine aj (t:=31) (p:=4) rfl ?_);refine iA HW 1 ?_;clear HW;intro aq2 HW;(try simp only[List.set_cons_zero,List.set_cons_succ]at HW)))
         refine bodyPost_ret (fu rfl _ _ g4 31 (eC _ _ _ _ _ _ _ _ _ _ _).toArray (0,0) _ rfl (HW.out.at 1 rfl) Tryz.underlying31 rfl (by kernel_rfl)) rfl ?_
         exact⟨_,_,_,rfl,HW.out.ts,⟨_,_,_,_,_,_,_,_,_,_,_,rfl,⟨HW.out.g.1.2,HW.out.g.1.1.1.t3,HW.out.g.1.1.1.c5,(HW.out.g.1.1.1.s6.mono (N':=N) (by omega)),(HW.out.g.1.1.1.s9.mono (N':=N) (by omega))⟩⟩,(by first|omega|decide)⟩
        |false=>
         go_wp2_with (first|((with_reducible refine gd 129 rfl ?_);refine lls HW 2 6 (.slice (some ⟨Bb,0,none⟩) n6 c6) Tryz.underlying26 ?_)|((with_reducible refine gd 131 rfl ?_);refine lS HW 0 0 ?_)|((with_reducible refine aj (t:=39) (p:=132) rfl ?_);have hS_:ST b _ (.slice A2_e n2_e d2_e) s3_e s6z (.slice A7_e n7_e d7_e) s8_e:=HW.out.g.2;refine Yr HW (HW.out.g.1.1.1.s6) rX.1 rX.2 hS_ ?_;clear HW;intro a9S HW;(try simp only[List.set_cons_zero,List.set_cons_succ]at HW);clear hS_)|((with_reducible refine gd 133 rfl ?_);refine lE HW 2 0 ?_)|((with_reducible refine aj (t:=31) (p:=4) rfl ?_);refine iA HW 1 ?_;clear HW;intro ahx HW;(try simp only[List.set_cons_zero,List.set_cons_succ]at HW)))
         refine bodyPost_ret (fu rfl _ _ g4 31 (eC _ _ _ _ _ _ _ _ _ _ _).toArray (0,0) _ rfl (HW.out.at 1 rfl) Tryz.underlying31 rfl (by kernel_rfl)) rfl ?_
         exact⟨_,_,_,rfl,HW.out.ts,⟨_,_,_,_,_,_,_,_,_,_,_,rfl,⟨HW.out.g.1.2,HW.out.g.1.1.1.t3,HW.out.g.1.1.1.c5,(HW.out.g.1.1.1.s6.mono (N':=N) (by omega)),(HW.out.g.1.1.1.s9.mono (N':=N) (by omega))⟩⟩,(by first|omega|decide)⟩
       |false=>
        go_wp2_with (first|((with_reducible refine gd 122 rfl ?_);refine lls HW 2 0 (.bool false) Tryz.underlying4 ?_)|((with_reducible refine gd 129 rfl ?_);refine lls HW 2 6 (.slice (some ⟨Bb,0,none⟩) n6 c6) Tryz.underlying26 ?_)|((with_reducible refine gd 131 rfl ?_);refine lS HW 0 0 ?_)|((with_reducible refine aj (t:=39) (p:=132) rfl ?_);have hS_:ST b _ (.slice A2_e n2_e d2_e) s3_e s6z (.slice A7_e n7_e d7_e) s8_e:=HW.out.g.2;refine Yr HW (HW.out.g.1.1.1.s6) rX.1 rX.2 hS_ ?_;clear HW;intro ah4 HW;(try simp only[List.set_cons_zero,List.set_cons_succ]at HW);clear hS_)|((with_reducible refine gd 133 rfl ?_);refine lE HW 2 0 ?_)|((with_reducible refine aj (t:=31) (p:=4) rfl ?_);refine iA HW 1 ?_;clear HW;intro aFF HW;(try simp only[List.set_cons_zero,List.set_cons_succ]at HW)))
        refine bodyPost_ret (fu rfl _ _ g4 31 (eC _ _ _ _ _ _ _ _ _ _ _).toArray (0,0) _ rfl (HW.out.at 1 rfl) Tryz.underlying31 rfl (by kernel_rfl)) rfl ?_
        exact⟨_,_,_,rfl,HW.out.ts,⟨_,_,_,_,_,_,_,_,_,_,_,rfl,⟨HW.out.g.1.2,HW.out.g.1.1.1.t3,HW.out.g.1.1.1.c5,(HW.out.g.1.1.1.s6.mono (N':=N) (by omega)),(HW.out.g.1.1.1.s9.mono (N':=N) (by omega))⟩⟩,(by first|omega|decide)⟩
 ·skip
  have PX:(s1_e==1)=false:=beq_eq_false_iff_ne.mpr yP
  have aqe:(s1_e != 1)=true:=bne_iff_ne.mpr yP
  go_wp2_with (first|((with_reducible refine gd 17 rfl ?_);refine lls HW 0 1 (.int .i64 s1_e) Tryz.underlying3 ?_)|((with_reducible refine gd 29 rfl ?_);refine lE HW 2 0 ?_)|((with_reducible refine aj (t:=31) (p:=4) rfl ?_);refine iA HW 1 ?_;clear HW;intro apt HW;(try simp only[List.set_cons_zero,List.set_cons_succ]at HW)))
  refine bodyPost_ret (fu rfl _ _ g4 31 (eC _ _ _ _ _ _ _ _ _ _ _).toArray (0,0) _ rfl (HW.out.at 1 rfl) Tryz.underlying31 rfl (by kernel_rfl)) rfl ?_
  exact⟨_,_,_,rfl,HW.out.ts,⟨_,_,_,_,_,_,_,_,_,_,_,rfl,(HW.out.g.1.up (by omega))⟩,(by first|omega|decide)⟩
def o5.T4:Bool×List (List Nat×List Nat):=(true,[([],[]),([0],[0]),([],[]),([1,2],[1,2]),([3],[3]),([4],[4]),([5],[5]),([6,5],[6]),([7],[7]),([8,7],[7,8]),([9,7,7],[7,9]),([10],[10]),([11,10],[10,11]),([10],[10]),([13,10],[10,13]),([12,14,10],[10,12,14]),([15,10],[10,15]),([16,10],[10,16]),([10],[10]),([18,10],[10,18]),([10],[10]),([19,20,10],[10,19,20]),([21,10],[10,21]),([22,10],[10,22]),([17,23,10],[10,17,23]),([10,24,7],[7,10,24]),([7,25],[7,25]),([26,10],[26]),([27],[27]),([28,27],[27,28]),([29,27],[27,29]),([30,27,27],[27,30]),([31],[31]),([32,31],[31,32]),([31],[31]),([33,34,31],[31,33,34]),([35,31],[31,35]),([36,31],[31,36]),([31],[31]),([38,31],[31,38]),([39,31],[31,39]),([37,40,31],[31,37,40]),([31,41,27],[27,31,41]),([27,42],[27,42])])
def o5.B4:List Nat:=[0,1,0,7,15,31,63,127,255,511,1023,2047,4095,2047,10239,32767,65535,131071,2047,264191,2047,1837055,3934207,8128511,16777215,33554431,67108863,134217727,268435455,536870911,1073741823,2147483647,4294967295,8589934591,4294967295,34359738367,68719476735,137438953471,4294967295,279172874239,828928688127,2199023255551,4398046511103,8796093022207]
theorem o5.tab4:jm .any (opsOf Tryz.f10 4)=o5.T4:=by kernel_rfl
theorem o5.bits4:fQ o5.T4.2 o5.B4=true:=by kernel_rfl
theorem Bc{w:World}{v1 v3 v6 v9:Value}{l1 l3:List bg}{l6:List pV}{l9:List nC}{x0 x10 r:Bool}{x2 x4 x7 x8:Int}{x5:ByteArray}(hE:Yd w v1 l1 v3 l3 v6 l6 v9 l9)(hs:SmE l1 l3 x5 l6 l9)(hr:xW x0 l1 x2 l3 x4 x5 l6 x7 x8 l9=r):Calls Tryz.prog 10 #[.agg (eC x0 v1 x2 v3 x4 x5 v6 x7 x8 v9 x10).toArray] w fun e w'=>e= .returned (.bool r)∧Below w.heap.size w w':=by
 obtain⟨b,hbe⟩:∃b,b=w.heap.size:=⟨_,rfl⟩
 have hw:TW b vv w:=.none _ _
 obtain⟨A1,c1,e_,_⟩:=hE.r1
 subst e_
 obtain⟨A3,c3,e_,_⟩:=hE.r3
 subst e_
 obtain⟨A6,c6,e_,aq3,C6,ahR⟩:=hE.r6
 subst e_
 have aFz:=C6.2.1
 clear C6
 obtain⟨A9,c9,e_,aFA,C9,aq4⟩:=hE.r9
 subst e_
 have aFB:=C9.2.1
 clear C9
 obtain⟨tk1,FJ⟩:∃t,ah (eH l1 x2=t):=⟨_,⟨rfl⟩⟩
 obtain⟨tk3,KT⟩:∃t,ah (eH l3 x4=t):=⟨_,⟨rfl⟩⟩
 obtain⟨fl,hfl⟩:∃t,ah (pU x7 x8=t):=⟨_,⟨rfl⟩⟩
 obtain⟨Gv,KU,aFC,⟨aFD,FL⟩,aFE,_⟩:=hs
 have HW:ah (LW b NX vv w [] (fun _ _=>True) vv w):=⟨LW.start hw trivial (Mon.top _)⟩
 clear hw
 go_enter Tryz.func10,Tryz.ntmps10
 have hI0:LI x0 l6 (uK l1 x2 l3 x4 x5 x7 x8 l9) r 0:=hr.symm
 go_wp2_with (first|((with_reducible refine gd 1 rfl ?_);refine lbx (N:=1) (t:=31) HW (eC x0 (.slice A1 l1.length c1) x2 (.slice A3 l3.length c3) x4 x5 (.slice A6 l6.length c6) x7 x8 (.slice A9 l9.length c9) x10) ?_;clear HW;intro g1 pF HW))
 go_loopg [3] (l6.length) (fun kq y3 wq=>∃(Mq:Nat→Nat→Prop)(iq:Int),(y3= .int .i64 iq)∧ah (0≤iq∧iq≤(l6.length:Int)∧l6.length-iq.toNat≤kq∧LI x0 l6 (uK l1 x2 l3 x4 x5 x7 x8 l9) r iq)∧ah (LW b NX vv w [⟨g1,eC x0 (.slice A1 l1.length c1) x2 (.slice A3 l3.length c3) x4 x5 (.slice A6 l6.length c6) x7 x8 (.slice A9 l9.length c9) x10,31⟩] (fun _ _=>True) Mq wq))
 case atStart=>exact⟨_,_,rfl,⟨⟨(by omega),(by omega),(by simp),hI0⟩⟩,⟨LW.less HW.out trivial (Mon.top _)⟩⟩
 case round=>
  clear HW
  obtain⟨Mq,iq,rfl,HI,HC⟩:=hrel
  have HW:=HC
  clear HC
  obtain⟨aao,aap,aaq,KV⟩:=HI.out
  have hI:=KV
  go_upto_if 9 with(first|((with_reducible refine gd 7 rfl ?_);refine lls HW 0 6 (.slice A6 l6.length c6) Tryz.underlying26 ?_))
  by_cases KW:iq<(l6.length:Int)
  ·skip
   have WH:=decide_eq_true KW
   go_upto_region 4 with(fail)
   obtain⟨k6,ek_⟩:=ahR (by omega)
   subst ek_
   obtain⟨p_e,A2_e,d2_e,A7_e,d7_e,sI,wu,tX,q2_e,C2_e,q7_e,C7_e⟩:=hE.el39 (i:=iq) (by omega) (by omega)
   obtain⟨t_,gQ⟩:∃t,ah ((tT p_e.f0&&l8 p_e)=t):=⟨_,⟨rfl⟩⟩
   have Yt:=eq_true (show(0:Int)≤iq by omega)
   have Yu:=eq_true (show iq<(l6.length:Int) by omega)
   have sJ:ah (wrap64 (wrap64 (2*iq)+1)=2*iq+1):=⟨by rw[dP (2*iq) (by omega) (by omega),dP _ (by omega) (by omega)]⟩
   go_upto_region 4 with(fail)
   cases t_ with
   |true=>
    by_cases c105:iq>0
    ·skip
     have Iq:=decide_eq_true c105
     have qj:ah (wrap64 (iq-1)=iq-1):=⟨dP _ (by omega) (by omega)⟩
     have pj_:=eq_true (show(0:Int)≤wrap64 (iq-1) by have h_:=qj.out;omega)
     have qj_:=eq_true (show wrap64 (iq-1)<(l6.length:Int) by have h_:=qj.out;omega)
     obtain⟨p_y,A2_y,d2_y,A7_y,d7_y,hp_y,hpm_y,hre_y,q2_y,C2_y,q7_y,C7_y⟩:=hE.el39 (i:=wrap64 (iq-1)) (by have h_:=qj.out;omega) (by have h_:=qj.out;omega)
     have sK:fe l6 (iq-1)=p_y:=by rw[←qj.out];exact hp_y
     by_cases yP:p_y.f0≥p_e.f0
     ·skip
      have PX:=decide_eq_true yP
      refine nA HW (fun W=>Below w.heap.size w W) [] 44 ((HW.out.drew.underN hbe (Below.refl _ _) (.none _ _))) (fun vZ HN hHeld=>?_)
      replace HW:=HN
      clear HN
      refine bR o5.tab4 o5.bits4 (fun HT_ HW_=>?_)
      refine pw 0 (some 12) rfl rfl ?_
      refine tk 1 (some 13) (bm 44 3) rfl rfl hHeld ?_ (hy:=jQ _ 0 6 (.slice (some ⟨k6,0,none⟩) l6.length c6) Tryz.underlying26)
      refine pw 2 (some 14) rfl rfl ?_
      refine pw 3 (some 15) rfl rfl ?_
      refine tk 4 (some 16) (bm 44 31) rfl rfl hHeld ?_ (hy:=yrw (sC p_e.f0 p_e.f1 (.slice A2_e p_e.f2.length d2_e) p_e.f3 p_e.f4 p_e.f5 p_e.f6 (.slice A7_e p_e.f7.length d7_e) p_e.f8 p_e.f9 p_e.f10.f0 p_e.f10.f1) (fun W h=>eG tX h) Tryz.underlying39)
      refine fV (i:=5) (N:=some 17) (bm 44 63) rfl rfl (bL HT_.out (by kernel_rfl)) (by decide) (fun K hK=>?_)
      refine gs Tryz.func28 #[(.agg (sC _ _ _ _ _ _ _ _ _ _ _ _).toArray)] ?_
      with_reducible refine(xA q2_e (Kd.C_below C2_e (HW.out.underN hbe (Below.refl _ _) (.none _ _))) q7_e (Kd.C_below C7_e (HW.out.underN hbe (Below.refl _ _) (.none _ _))) (FL _ wu) gQ.out).mono ?_
      rintro e AU ⟨rfl,hb⟩
      refine⟨_,rfl,?_⟩
      replace HW:=ah.mk (HW.out.quiet hb)
      clear hb
      refine hK.out _ _ ⟨HW.out.bxs,(HW.out.underN hbe (Below.refl _ _) (.none _ _))⟩ (fun hHeld=>?_)
      clear hK K
      refine nm ?_
      refine pw 6 (some 18) rfl rfl ?_
      refine pw 7 (some 19) rfl rfl ?_
      refine pw 8 (some 20) rfl rfl ?_
      refine pw 9 (some 21) rfl rfl ?_
      refine pw 10 (some 22) rfl rfl ?_
      refine pw 11 (some 23) rfl rfl ?_
      refine tk 12 (some 24) (bm 44 8191) rfl rfl hHeld ?_ (hy:=jQ _ 0 6 (.slice (some ⟨k6,0,none⟩) l6.length c6) Tryz.underlying26)
      refine pw 13 (some 25) rfl rfl ?_
      refine pw 14 (some 26) rfl rfl ?_
      refine pw 15 (some 27) rfl rfl ?_
      refine pw 16 (some 28) rfl rfl ?_
      refine tk 17 (some 29) (bm 44 262143) rfl rfl hHeld ?_ (hy:=CS (.int .i64 p_y.f0) (fun W h=>((fun W h=>eG hre_y h)) W h 0 _ rfl) Tryz.underlying3)
      refine pw 18 (some 30) rfl rfl ?_
      refine tk 19 (some 31) (bm 44 1048575) rfl rfl hHeld ?_ (hy:=jQ _ 0 6 (.slice (some ⟨k6,0,none⟩) l6.length c6) Tryz.underlying26)
      refine pw 20 (some 32) rfl rfl ?_
      refine pw 21 (some 33) rfl rfl ?_
      refine pw 22 (some 34) rfl rfl ?_
      refine tk 23 (some 35) (bm 44 16777215) rfl rfl hHeld ?_ (hy:=CS (.int .i64 p_e.f0) (fun W h=>((fun W h=>eG tX h)) W h 0 _ rfl) Tryz.underlying3)
      refine pw 24 (some 36) rfl rfl ?_
      refine pw 25 (some 37) rfl rfl ?_
      refine pw 26 (some 38) rfl rfl ?_
      refine pw 27 (some 39) rfl rfl ?_
      refine pn 28 (some 40) rfl rfl ?_
      refine pn 29 (some 41) rfl rfl ?_
      refine pn 30 (some 42) rfl rfl ?_
      refine pn 31 (some 43) rfl rfl ?_
      refine pn 32 (some 44) rfl rfl ?_
      refine pn 33 (some 45) rfl rfl ?_
      refine pn 34 (some 46) rfl rfl ?_
      refine pn 35 (some 47) rfl rfl ?_
      refine pn 36 (some 48) rfl rfl ?_
      refine pn 37 (some 49) rfl rfl ?_
      refine pn 38 (some 50) rfl rfl ?_
      refine pn 39 (some 51) rfl rfl ?_
      refine pn 40 (some 52) rfl rfl ?_
      refine pn 41 (some 53) rfl rfl ?_
      refine pn 42 (some 54) rfl rfl ?_
      refine pw 43 (some 55) rfl rfl ?_
      refine fw (dM HT_.out (by kernel_rfl)) ?_
      clear HT_ HW_
      go_wp2_with (fail)
      go_ret
      exact⟨by rw[hI.no (by omega) (by omega) sI (by first|exact .inl gQ.out|exact .inr (.inl ⟨by omega,by rw[sK];omega⟩)|exact .inr (.inr ⟨rfl,by have h_:=sJ.out;omega⟩))]<;>rfl,(HW.out.underN hbe (Below.refl _ _) (.none _ _))⟩
     ·skip
      have PX:=decide_eq_false yP
      cases x0 with
      |true=>
       refine nA HW (fun W=>Below w.heap.size w W) [] 44 ((HW.out.drew.underN hbe (Below.refl _ _) (.none _ _))) (fun Fz HN hHeld=>?_)
       replace HW:=HN
       clear HN
       refine bR o5.tab4 o5.bits4 (fun HT_ HW_=>?_)
       refine pw 0 (some 12) rfl rfl ?_
       refine tk 1 (some 13) (bm 44 3) rfl rfl hHeld ?_ (hy:=jQ _ 0 6 (.slice (some ⟨k6,0,none⟩) l6.length c6) Tryz.underlying26)
       refine pw 2 (some 14) rfl rfl ?_
       refine pw 3 (some 15) rfl rfl ?_
       refine tk 4 (some 16) (bm 44 31) rfl rfl hHeld ?_ (hy:=yrw (sC p_e.f0 p_e.f1 (.slice A2_e p_e.f2.length d2_e) p_e.f3 p_e.f4 p_e.f5 p_e.f6 (.slice A7_e p_e.f7.length d7_e) p_e.f8 p_e.f9 p_e.f10.f0 p_e.f10.f1) (fun W h=>eG tX h) Tryz.underlying39)
       refine fV (i:=5) (N:=some 17) (bm 44 63) rfl rfl (bL HT_.out (by kernel_rfl)) (by decide) (fun K hK=>?_)
       refine gs Tryz.func28 #[(.agg (sC _ _ _ _ _ _ _ _ _ _ _ _).toArray)] ?_
       with_reducible refine(xA q2_e (Kd.C_below C2_e (HW.out.underN hbe (Below.refl _ _) (.none _ _))) q7_e (Kd.C_below C7_e (HW.out.underN hbe (Below.refl _ _) (.none _ _))) (FL _ wu) gQ.out).mono ?_
       rintro e FB ⟨rfl,hb⟩
       refine⟨_,rfl,?_⟩
       replace HW:=ah.mk (HW.out.quiet hb)
       clear hb
       refine hK.out _ _ ⟨HW.out.bxs,(HW.out.underN hbe (Below.refl _ _) (.none _ _))⟩ (fun hHeld=>?_)
       clear hK K
       refine nm ?_
       refine pw 6 (some 18) rfl rfl ?_
       refine pw 7 (some 19) rfl rfl ?_
       refine pw 8 (some 20) rfl rfl ?_
       refine pw 9 (some 21) rfl rfl ?_
       refine pw 10 (some 22) rfl rfl ?_
       refine pw 11 (some 23) rfl rfl ?_
       refine tk 12 (some 24) (bm 44 8191) rfl rfl hHeld ?_ (hy:=jQ _ 0 6 (.slice (some ⟨k6,0,none⟩) l6.length c6) Tryz.underlying26)
       refine pw 13 (some 25) rfl rfl ?_
       refine pw 14 (some 26) rfl rfl ?_
       refine pw 15 (some 27) rfl rfl ?_
       refine pw 16 (some 28) rfl rfl ?_
       refine tk 17 (some 29) (bm 44 262143) rfl rfl hHeld ?_ (hy:=CS (.int .i64 p_y.f0) (fun W h=>((fun W h=>eG hre_y h)) W h 0 _ rfl) Tryz.underlying3)
       refine pw 18 (some 30) rfl rfl ?_
       refine tk 19 (some 31) (bm 44 1048575) rfl rfl hHeld ?_ (hy:=jQ _ 0 6 (.slice (some ⟨k6,0,none⟩) l6.length c6) Tryz.underlying26)
       refine pw 20 (some 32) rfl rfl ?_
       refine pw 21 (some 33) rfl rfl ?_
       refine pw 22 (some 34) rfl rfl ?_
       refine tk 23 (some 35) (bm 44 16777215) rfl rfl hHeld ?_ (hy:=CS (.int .i64 p_e.f0) (fun W h=>((fun W h=>eG tX h)) W h 0 _ rfl) Tryz.underlying3)
       refine pw 24 (some 36) rfl rfl ?_
       refine pw 25 (some 37) rfl rfl ?_
       refine pw 26 (some 38) rfl rfl ?_
       refine pw 27 (some 39) rfl rfl ?_
       refine pw 28 (some 40) rfl rfl ?_
       refine tk 29 (some 41) (bm 44 1073741823) rfl rfl hHeld ?_ (hy:=jQ _ 0 0 (.bool true) Tryz.underlying4)
       refine pw 30 (some 42) rfl rfl ?_
       refine pw 31 (some 43) rfl rfl ?_
       refine pn 32 (some 44) rfl rfl ?_
       refine pn 33 (some 45) rfl rfl ?_
       refine pn 34 (some 46) rfl rfl ?_
       refine pn 35 (some 47) rfl rfl ?_
       refine pn 36 (some 48) rfl rfl ?_
       refine pn 37 (some 49) rfl rfl ?_
       refine pn 38 (some 50) rfl rfl ?_
       refine pn 39 (some 51) rfl rfl ?_
       refine pn 40 (some 52) rfl rfl ?_
       refine pn 41 (some 53) rfl rfl ?_
       refine pw 42 (some 54) rfl rfl ?_
       refine pw 43 (some 55) rfl rfl ?_
       refine fw (dM HT_.out (by kernel_rfl)) ?_
       clear HT_ HW_
       go_wp2_with (fail)
       go_roundg (l6.length-(iq+1).toNat)
       case measure=>omega
       case rel=>exact⟨_,_,rfl,⟨⟨(by omega),(by omega),(by omega),(hI.yes (by omega) (by omega) sI gQ.out (by first|exact .inl (by omega)|exact .inr (by rw[sK];omega)) (by first|exact .inl rfl|exact .inr (by have h_:=sJ.out;have g_:ah (p_e.f0=wrap64 (wrap64 (2*iq)+1)):=(by assumption);have g2_:=g_.out;omega)))⟩⟩,⟨LW.less HW.out trivial (Mon.top _)⟩⟩
      |false=>
       refine nA HW (fun W=>Below w.heap.size w W) [] 44 ((HW.out.drew.underN hbe (Below.refl _ _) (.none _ _))) (fun Cb HN hHeld=>?_)
       replace HW:=HN
       clear HN
       refine bR o5.tab4 o5.bits4 (fun HT_ HW_=>?_)
       refine pw 0 (some 12) rfl rfl ?_
       refine tk 1 (some 13) (bm 44 3) rfl rfl hHeld ?_ (hy:=jQ _ 0 6 (.slice (some ⟨k6,0,none⟩) l6.length c6) Tryz.underlying26)
       refine pw 2 (some 14) rfl rfl ?_
       refine pw 3 (some 15) rfl rfl ?_
       refine tk 4 (some 16) (bm 44 31) rfl rfl hHeld ?_ (hy:=yrw (sC p_e.f0 p_e.f1 (.slice A2_e p_e.f2.length d2_e) p_e.f3 p_e.f4 p_e.f5 p_e.f6 (.slice A7_e p_e.f7.length d7_e) p_e.f8 p_e.f9 p_e.f10.f0 p_e.f10.f1) (fun W h=>eG tX h) Tryz.underlying39)
       refine fV (i:=5) (N:=some 17) (bm 44 63) rfl rfl (bL HT_.out (by kernel_rfl)) (by decide) (fun K hK=>?_)
       refine gs Tryz.func28 #[(.agg (sC _ _ _ _ _ _ _ _ _ _ _ _).toArray)] ?_
       with_reducible refine(xA q2_e (Kd.C_below C2_e (HW.out.underN hbe (Below.refl _ _) (.none _ _))) q7_e (Kd.C_below C7_e (HW.out.underN hbe (Below.refl _ _) (.none _ _))) (FL _ wu) gQ.out).mono ?_
       rintro e AV ⟨rfl,hb⟩
       refine⟨_,rfl,?_⟩
       replace HW:=ah.mk (HW.out.quiet hb)
       clear hb
       refine hK.out _ _ ⟨HW.out.bxs,(HW.out.underN hbe (Below.refl _ _) (.none _ _))⟩ (fun hHeld=>?_)
       clear hK K
       refine nm ?_
       refine pw 6 (some 18) rfl rfl ?_
       refine pw 7 (some 19) rfl rfl ?_
       refine pw 8 (some 20) rfl rfl ?_
       refine pw 9 (some 21) rfl rfl ?_
       refine pw 10 (some 22) rfl rfl ?_
       refine pw 11 (some 23) rfl rfl ?_
       refine tk 12 (some 24) (bm 44 8191) rfl rfl hHeld ?_ (hy:=jQ _ 0 6 (.slice (some ⟨k6,0,none⟩) l6.length c6) Tryz.underlying26)
       refine pw 13 (some 25) rfl rfl ?_
       refine pw 14 (some 26) rfl rfl ?_
       refine pw 15 (some 27) rfl rfl ?_
       refine pw 16 (some 28) rfl rfl ?_
       refine tk 17 (some 29) (bm 44 262143) rfl rfl hHeld ?_ (hy:=CS (.int .i64 p_y.f0) (fun W h=>((fun W h=>eG hre_y h)) W h 0 _ rfl) Tryz.underlying3)
       refine pw 18 (some 30) rfl rfl ?_
       refine tk 19 (some 31) (bm 44 1048575) rfl rfl hHeld ?_ (hy:=jQ _ 0 6 (.slice (some ⟨k6,0,none⟩) l6.length c6) Tryz.underlying26)
       refine pw 20 (some 32) rfl rfl ?_
       refine pw 21 (some 33) rfl rfl ?_
       refine pw 22 (some 34) rfl rfl ?_
       refine tk 23 (some 35) (bm 44 16777215) rfl rfl hHeld ?_ (hy:=CS (.int .i64 p_e.f0) (fun W h=>((fun W h=>eG tX h)) W h 0 _ rfl) Tryz.underlying3)
       refine pw 24 (some 36) rfl rfl ?_
       refine pw 25 (some 37) rfl rfl ?_
       refine pw 26 (some 38) rfl rfl ?_
       refine pw 27 (some 39) rfl rfl ?_
       refine pw 28 (some 40) rfl rfl ?_
       refine tk 29 (some 41) (bm 44 1073741823) rfl rfl hHeld ?_ (hy:=jQ _ 0 0 (.bool false) Tryz.underlying4)
       refine pw 30 (some 42) rfl rfl ?_
       refine pw 31 (some 43) rfl rfl ?_
       refine pw 32 (some 44) rfl rfl ?_
       refine tk 33 (some 45) (bm 44 17179869183) rfl rfl hHeld ?_ (hy:=jQ _ 0 6 (.slice (some ⟨k6,0,none⟩) l6.length c6) Tryz.underlying26)
       refine pw 34 (some 46) rfl rfl ?_
       refine pw 35 (some 47) rfl rfl ?_
       refine pw 36 (some 48) rfl rfl ?_
       refine tk 37 (some 49) (bm 44 274877906943) rfl rfl hHeld ?_ (hy:=CS (.int .i64 p_e.f0) (fun W h=>((fun W h=>eG tX h)) W h 0 _ rfl) Tryz.underlying3)
       refine pw 38 (some 50) rfl rfl ?_
       refine pw 39 (some 51) rfl rfl ?_
       refine pw 40 (some 52) rfl rfl ?_
       refine pw 41 (some 53) rfl rfl ?_
       refine pw 42 (some 54) rfl rfl ?_
       refine pw 43 (some 55) rfl rfl ?_
       refine fw (dM HT_.out (by kernel_rfl)) ?_
       clear HT_ HW_
       go_upto_if 55 with(fail)
       by_cases Ci:p_e.f0=wrap64 ((wrap64 (2*iq))+1)
       ·skip
        have WK:(p_e.f0==(wrap64 ((wrap64 (2*iq))+1)))=true:=beq_iff_eq.mpr Ci
        have adr:(p_e.f0 != (wrap64 ((wrap64 (2*iq))+1)))=false:=bne_eq_false_iff_eq.mpr Ci
        have aOF:=ah.mk Ci
        clear Ci
        go_wp2_with (fail)
        go_roundg (l6.length-(iq+1).toNat)
        case measure=>omega
        case rel=>exact⟨_,_,rfl,⟨⟨(by omega),(by omega),(by omega),(hI.yes (by omega) (by omega) sI gQ.out (by first|exact .inl (by omega)|exact .inr (by rw[sK];omega)) (by first|exact .inl rfl|exact .inr (by have h_:=sJ.out;have g_:ah (p_e.f0=wrap64 (wrap64 (2*iq)+1)):=(by assumption);have g2_:=g_.out;omega)))⟩⟩,⟨LW.less HW.out trivial (Mon.top _)⟩⟩
       ·skip
        have WK:(p_e.f0==(wrap64 ((wrap64 (2*iq))+1)))=false:=beq_eq_false_iff_ne.mpr Ci
        have adr:(p_e.f0 != (wrap64 ((wrap64 (2*iq))+1)))=true:=bne_iff_ne.mpr Ci
        go_wp2_with (fail)
        go_ret
        exact⟨by rw[hI.no (by omega) (by omega) sI (by first|exact .inl gQ.out|exact .inr (.inl ⟨by omega,by rw[sK];omega⟩)|exact .inr (.inr ⟨rfl,by have h_:=sJ.out;omega⟩))]<;>rfl,(HW.out.underN hbe (Below.refl _ _) (.none _ _))⟩
    ·skip
     have Iq:=decide_eq_false c105
     cases x0 with
     |true=>
      refine nA HW (fun W=>Below w.heap.size w W) [] 44 ((HW.out.drew.underN hbe (Below.refl _ _) (.none _ _))) (fun yO HN hHeld=>?_)
      replace HW:=HN
      clear HN
      refine bR o5.tab4 o5.bits4 (fun HT_ HW_=>?_)
      refine pw 0 (some 12) rfl rfl ?_
      refine tk 1 (some 13) (bm 44 3) rfl rfl hHeld ?_ (hy:=jQ _ 0 6 (.slice (some ⟨k6,0,none⟩) l6.length c6) Tryz.underlying26)
      refine pw 2 (some 14) rfl rfl ?_
      refine pw 3 (some 15) rfl rfl ?_
      refine tk 4 (some 16) (bm 44 31) rfl rfl hHeld ?_ (hy:=yrw (sC p_e.f0 p_e.f1 (.slice A2_e p_e.f2.length d2_e) p_e.f3 p_e.f4 p_e.f5 p_e.f6 (.slice A7_e p_e.f7.length d7_e) p_e.f8 p_e.f9 p_e.f10.f0 p_e.f10.f1) (fun W h=>eG tX h) Tryz.underlying39)
      refine fV (i:=5) (N:=some 17) (bm 44 63) rfl rfl (bL HT_.out (by kernel_rfl)) (by decide) (fun K hK=>?_)
      refine gs Tryz.func28 #[(.agg (sC _ _ _ _ _ _ _ _ _ _ _ _).toArray)] ?_
      with_reducible refine(xA q2_e (Kd.C_below C2_e (HW.out.underN hbe (Below.refl _ _) (.none _ _))) q7_e (Kd.C_below C7_e (HW.out.underN hbe (Below.refl _ _) (.none _ _))) (FL _ wu) gQ.out).mono ?_
      rintro e yL ⟨rfl,hb⟩
      refine⟨_,rfl,?_⟩
      replace HW:=ah.mk (HW.out.quiet hb)
      clear hb
      refine hK.out _ _ ⟨HW.out.bxs,(HW.out.underN hbe (Below.refl _ _) (.none _ _))⟩ (fun hHeld=>?_)
      clear hK K
      refine nm ?_
      refine pw 6 (some 18) rfl rfl ?_
      refine pw 7 (some 19) rfl rfl ?_
      refine pw 8 (some 20) rfl rfl ?_
      refine pw 9 (some 21) rfl rfl ?_
      refine pw 10 (some 22) rfl rfl ?_
      refine pn 11 (some 23) rfl rfl ?_
      refine pn 12 (some 24) rfl rfl ?_
      refine pn 13 (some 25) rfl rfl ?_
      refine pn 14 (some 26) rfl rfl ?_
      refine pn 15 (some 27) rfl rfl ?_
      refine pn 16 (some 28) rfl rfl ?_
      refine pn 17 (some 29) rfl rfl ?_
      refine pn 18 (some 30) rfl rfl ?_
      refine pn 19 (some 31) rfl rfl ?_
      refine pn 20 (some 32) rfl rfl ?_
      refine pn 21 (some 33) rfl rfl ?_
      refine pn 22 (some 34) rfl rfl ?_
      refine pn 23 (some 35) rfl rfl ?_
      refine pn 24 (some 36) rfl rfl ?_
      refine pw 25 (some 37) rfl rfl ?_
      refine pw 26 (some 38) rfl rfl ?_
      refine pw 27 (some 39) rfl rfl ?_
      refine pw 28 (some 40) rfl rfl ?_
      refine tk 29 (some 41) (bm 44 1073741823) rfl rfl hHeld ?_ (hy:=jQ _ 0 0 (.bool true) Tryz.underlying4)
      refine pw 30 (some 42) rfl rfl ?_
      refine pw 31 (some 43) rfl rfl ?_
      refine pn 32 (some 44) rfl rfl ?_
      refine pn 33 (some 45) rfl rfl ?_
      refine pn 34 (some 46) rfl rfl ?_
      refine pn 35 (some 47) rfl rfl ?_
      refine pn 36 (some 48) rfl rfl ?_
      refine pn 37 (some 49) rfl rfl ?_
      refine pn 38 (some 50) rfl rfl ?_
      refine pn 39 (some 51) rfl rfl ?_
      refine pn 40 (some 52) rfl rfl ?_
      refine pn 41 (some 53) rfl rfl ?_
      refine pw 42 (some 54) rfl rfl ?_
      refine pw 43 (some 55) rfl rfl ?_
      refine fw (dM HT_.out (by kernel_rfl)) ?_
      clear HT_ HW_
      go_wp2_with (fail)
      go_roundg (l6.length-(iq+1).toNat)
      case measure=>omega
      case rel=>exact⟨_,_,rfl,⟨⟨(by omega),(by omega),(by omega),(hI.yes (by omega) (by omega) sI gQ.out (by first|exact .inl (by omega)|exact .inr (by rw[sK];omega)) (by first|exact .inl rfl|exact .inr (by have h_:=sJ.out;have g_:ah (p_e.f0=wrap64 (wrap64 (2*iq)+1)):=(by assumption);have g2_:=g_.out;omega)))⟩⟩,⟨LW.less HW.out trivial (Mon.top _)⟩⟩
     |false=>
      refine nA HW (fun W=>Below w.heap.size w W) [] 44 ((HW.out.drew.underN hbe (Below.refl _ _) (.none _ _))) (fun yM HN hHeld=>?_)
      replace HW:=HN
      clear HN
      refine bR o5.tab4 o5.bits4 (fun HT_ HW_=>?_)
      refine pw 0 (some 12) rfl rfl ?_
      refine tk 1 (some 13) (bm 44 3) rfl rfl hHeld ?_ (hy:=jQ _ 0 6 (.slice (some ⟨k6,0,none⟩) l6.length c6) Tryz.underlying26)
      refine pw 2 (some 14) rfl rfl ?_
      refine pw 3 (some 15) rfl rfl ?_
      refine tk 4 (some 16) (bm 44 31) rfl rfl hHeld ?_ (hy:=yrw (sC p_e.f0 p_e.f1 (.slice A2_e p_e.f2.length d2_e) p_e.f3 p_e.f4 p_e.f5 p_e.f6 (.slice A7_e p_e.f7.length d7_e) p_e.f8 p_e.f9 p_e.f10.f0 p_e.f10.f1) (fun W h=>eG tX h) Tryz.underlying39)
      refine fV (i:=5) (N:=some 17) (bm 44 63) rfl rfl (bL HT_.out (by kernel_rfl)) (by decide) (fun K hK=>?_)
      refine gs Tryz.func28 #[(.agg (sC _ _ _ _ _ _ _ _ _ _ _ _).toArray)] ?_
      with_reducible refine(xA q2_e (Kd.C_below C2_e (HW.out.underN hbe (Below.refl _ _) (.none _ _))) q7_e (Kd.C_below C7_e (HW.out.underN hbe (Below.refl _ _) (.none _ _))) (FL _ wu) gQ.out).mono ?_
      rintro e xI ⟨rfl,hb⟩
      refine⟨_,rfl,?_⟩
      replace HW:=ah.mk (HW.out.quiet hb)
      clear hb
      refine hK.out _ _ ⟨HW.out.bxs,(HW.out.underN hbe (Below.refl _ _) (.none _ _))⟩ (fun hHeld=>?_)
      clear hK K
      refine nm ?_
      refine pw 6 (some 18) rfl rfl ?_
      refine pw 7 (some 19) rfl rfl ?_
      refine pw 8 (some 20) rfl rfl ?_
      refine pw 9 (some 21) rfl rfl ?_
      refine pw 10 (some 22) rfl rfl ?_
      refine pn 11 (some 23) rfl rfl ?_
      refine pn 12 (some 24) rfl rfl ?_
      refine pn 13 (some 25) rfl rfl ?_
      refine pn 14 (some 26) rfl rfl ?_
      refine pn 15 (some 27) rfl rfl ?_
      refine pn 16 (some 28) rfl rfl ?_
      refine pn 17 (some 29) rfl rfl ?_
      refine pn 18 (some 30) rfl rfl ?_
      refine pn 19 (some 31) rfl rfl ?_
      refine pn 20 (some 32) rfl rfl ?_
      refine pn 21 (some 33) rfl rfl ?_
      refine pn 22 (some 34) rfl rfl ?_
      refine pn 23 (some 35) rfl rfl ?_
      refine pn 24 (some 36) rfl rfl ?_
      refine pw 25 (some 37) rfl rfl ?_
      refine pw 26 (some 38) rfl rfl ?_
      refine pw 27 (some 39) rfl rfl ?_
      refine pw 28 (some 40) rfl rfl ?_
      refine tk 29 (some 41) (bm 44 1073741823) rfl rfl hHeld ?_ (hy:=jQ _ 0 0 (.bool false) Tryz.underlying4)
      refine pw 30 (some 42) rfl rfl ?_
      refine pw 31 (some 43) rfl rfl ?_
      refine pw 32 (some 44) rfl rfl ?_
      refine tk 33 (some 45) (bm 44 17179869183) rfl rfl hHeld ?_ (hy:=jQ _ 0 6 (.slice (some ⟨k6,0,none⟩) l6.length c6) Tryz.underlying26)
      refine pw 34 (some 46) rfl rfl ?_
      refine pw 35 (some 47) rfl rfl ?_
      refine pw 36 (some 48) rfl rfl ?_
      refine tk 37 (some 49) (bm 44 274877906943) rfl rfl hHeld ?_ (hy:=CS (.int .i64 p_e.f0) (fun W h=>((fun W h=>eG tX h)) W h 0 _ rfl) Tryz.underlying3)
      refine pw 38 (some 50) rfl rfl ?_
      refine pw 39 (some 51) rfl rfl ?_
      refine pw 40 (some 52) rfl rfl ?_
      refine pw 41 (some 53) rfl rfl ?_
      refine pw 42 (some 54) rfl rfl ?_
      refine pw 43 (some 55) rfl rfl ?_
      refine fw (dM HT_.out (by kernel_rfl)) ?_
      clear HT_ HW_
      go_upto_if 55 with(fail)
      by_cases xJ:p_e.f0=wrap64 ((wrap64 (2*iq))+1)
      ·skip
       have a2u:(p_e.f0==(wrap64 ((wrap64 (2*iq))+1)))=true:=beq_iff_eq.mpr xJ
       have a2v:(p_e.f0 != (wrap64 ((wrap64 (2*iq))+1)))=false:=bne_eq_false_iff_eq.mpr xJ
       have aOG:=ah.mk xJ
       clear xJ
       go_wp2_with (fail)
       go_roundg (l6.length-(iq+1).toNat)
       case measure=>omega
       case rel=>exact⟨_,_,rfl,⟨⟨(by omega),(by omega),(by omega),(hI.yes (by omega) (by omega) sI gQ.out (by first|exact .inl (by omega)|exact .inr (by rw[sK];omega)) (by first|exact .inl rfl|exact .inr (by have h_:=sJ.out;have g_:ah (p_e.f0=wrap64 (wrap64 (2*iq)+1)):=(by assumption);have g2_:=g_.out;omega)))⟩⟩,⟨LW.less HW.out trivial (Mon.top _)⟩⟩
      ·skip
       have a2u:(p_e.f0==(wrap64 ((wrap64 (2*iq))+1)))=false:=beq_eq_false_iff_ne.mpr xJ
       have a2v:(p_e.f0 != (wrap64 ((wrap64 (2*iq))+1)))=true:=bne_iff_ne.mpr xJ
       go_wp2_with (fail)
       go_ret
       exact⟨by rw[hI.no (by omega) (by omega) sI (by first|exact .inl gQ.out|exact .inr (.inl ⟨by omega,by rw[sK];omega⟩)|exact .inr (.inr ⟨rfl,by have h_:=sJ.out;omega⟩))]<;>rfl,(HW.out.underN hbe (Below.refl _ _) (.none _ _))⟩
   |false=>
    refine nA HW (fun W=>Below w.heap.size w W) [] 44 ((HW.out.drew.underN hbe (Below.refl _ _) (.none _ _))) (fun yN HN hHeld=>?_)
    replace HW:=HN
    clear HN
    refine bR o5.tab4 o5.bits4 (fun HT_ HW_=>?_)
    refine pw 0 (some 12) rfl rfl ?_
    refine tk 1 (some 13) (bm 44 3) rfl rfl hHeld ?_ (hy:=jQ _ 0 6 (.slice (some ⟨k6,0,none⟩) l6.length c6) Tryz.underlying26)
    refine pw 2 (some 14) rfl rfl ?_
    refine pw 3 (some 15) rfl rfl ?_
    refine tk 4 (some 16) (bm 44 31) rfl rfl hHeld ?_ (hy:=yrw (sC p_e.f0 p_e.f1 (.slice A2_e p_e.f2.length d2_e) p_e.f3 p_e.f4 p_e.f5 p_e.f6 (.slice A7_e p_e.f7.length d7_e) p_e.f8 p_e.f9 p_e.f10.f0 p_e.f10.f1) (fun W h=>eG tX h) Tryz.underlying39)
    refine fV (i:=5) (N:=some 17) (bm 44 63) rfl rfl (bL HT_.out (by kernel_rfl)) (by decide) (fun K hK=>?_)
    refine gs Tryz.func28 #[(.agg (sC _ _ _ _ _ _ _ _ _ _ _ _).toArray)] ?_
    with_reducible refine(xA q2_e (Kd.C_below C2_e (HW.out.underN hbe (Below.refl _ _) (.none _ _))) q7_e (Kd.C_below C7_e (HW.out.underN hbe (Below.refl _ _) (.none _ _))) (FL _ wu) gQ.out).mono ?_
    rintro e AR ⟨rfl,hb⟩
    refine⟨_,rfl,?_⟩
    replace HW:=ah.mk (HW.out.quiet hb)
    clear hb
    refine hK.out _ _ ⟨HW.out.bxs,(HW.out.underN hbe (Below.refl _ _) (.none _ _))⟩ (fun hHeld=>?_)
    clear hK K
    refine nm ?_
    refine pw 6 (some 18) rfl rfl ?_
    refine pw 7 (some 19) rfl rfl ?_
    refine pn 8 (some 20) rfl rfl ?_
    refine pn 9 (some 21) rfl rfl ?_
    refine pn 10 (some 22) rfl rfl ?_
    refine pn 11 (some 23) rfl rfl ?_
    refine pn 12 (some 24) rfl rfl ?_
    refine pn 13 (some 25) rfl rfl ?_
    refine pn 14 (some 26) rfl rfl ?_
    refine pn 15 (some 27) rfl rfl ?_
    refine pn 16 (some 28) rfl rfl ?_
    refine pn 17 (some 29) rfl rfl ?_
    refine pn 18 (some 30) rfl rfl ?_
    refine pn 19 (some 31) rfl rfl ?_
    refine pn 20 (some 32) rfl rfl ?_
    refine pn 21 (some 33) rfl rfl ?_
    refine pn 22 (some 34) rfl rfl ?_
    refine pn 23 (some 35) rfl rfl ?_
    refine pn 24 (some 36) rfl rfl ?_
    refine pn 25 (some 37) rfl rfl ?_
    refine pw 26 (some 38) rfl rfl ?_
    refine pw 27 (some 39) rfl rfl ?_
    refine pn 28 (some 40) rfl rfl ?_
    refine pn 29 (some 41) rfl rfl ?_
    refine pn 30 (some 42) rfl rfl ?_
    refine pn 31 (some 43) rfl rfl ?_
    refine pn 32 (some 44) rfl rfl ?_
    refine pn 33 (some 45) rfl rfl ?_
    refine pn 34 (some 46) rfl rfl ?_
    refine pn 35 (some 47) rfl rfl ?_
    refine pn 36 (some 48) rfl rfl ?_
    refine pn 37 (some 49) rfl rfl ?_
    refine pn 38 (some 50) rfl rfl ?_
    refine pn 39 (some 51) rfl rfl ?_
    refine pn 40 (some 52) rfl rfl ?_
    refine pn 41 (some 53) rfl rfl ?_
    refine pn 42 (some 54) rfl rfl ?_
    refine pw 43 (some 55) rfl rfl ?_
    refine fw (dM HT_.out (by kernel_rfl)) ?_
    clear HT_ HW_
    go_wp2_with (fail)
    go_ret
    exact⟨by rw[hI.no (by omega) (by omega) sI (by first|exact .inl gQ.out|exact .inr (.inl ⟨by omega,by rw[sK];omega⟩)|exact .inr (.inr ⟨rfl,by have h_:=sJ.out;omega⟩))]<;>rfl,(HW.out.underN hbe (Below.refl _ _) (.none _ _))⟩
  ·skip
   have WH:=decide_eq_false KW
   go_upto_region 6 with(fail)
   have hF0:=FI.start (hI.done (by omega)) FJ.out KT.out hfl.out
   go_wp2_with (fail)
   go_loopg [4] (l9.length) (fun kq y4 wq=>∃(Mq:Nat→Nat→Prop)(jq:Int),(y4= .int .i64 jq)∧ah (0≤jq∧jq≤(l9.length:Int)∧l9.length-jq.toNat≤kq∧FI l9 (decide ((l9.length:Int)≤60)&&(decide ((x5.size:Int)≤600)&&(tk1&&(tk3&&fl)))) r jq)∧ah (LW b NX vv w [⟨g1,eC x0 (.slice A1 l1.length c1) x2 (.slice A3 l3.length c3) x4 x5 (.slice A6 l6.length c6) x7 x8 (.slice A9 l9.length c9) x10,31⟩] (fun _ _=>True) Mq wq))
   case atStart=>exact⟨_,_,rfl,⟨⟨(by omega),(by omega),(by simp),hF0⟩⟩,⟨LW.less HW.out trivial (Mon.top _)⟩⟩
   case round=>
    clear HW
    obtain⟨Mq,jq,rfl,HI,HC⟩:=hrel
    have HW:=HC
    clear HC
    obtain⟨azZ,aA0,aA1,aaF⟩:=HI.out
    have hF:=aaF
    go_upto_if 60 with(first|((with_reducible refine gd 58 rfl ?_);refine lls HW 0 9 (.slice A9 l9.length c9) Tryz.underlying29 ?_))
    by_cases c124:jq<(l9.length:Int)
    ·skip
     have a3b:=decide_eq_true c124
     go_upto_region 9 with(fail)
     obtain⟨k9,ek_⟩:=aq4 (by omega)
     subst ek_
     obtain⟨p_f,aqs,aOH,aGD⟩:=hE.el42 (i:=jq) (by omega) (by omega)
     obtain⟨tf,aiy⟩:∃t,ah (jA p_f=t):=⟨_,⟨rfl⟩⟩
     have Yt:=eq_true (show(0:Int)≤jq by omega)
     have Yu:=eq_true (show jq<(l9.length:Int) by omega)
     go_upto_if 69 with(first|((with_reducible refine gd 64 rfl ?_);refine lls HW 0 9 (.slice (some ⟨k9,0,none⟩) l9.length c9) Tryz.underlying29 ?_)|((with_reducible refine gd 67 rfl ?_);refine lrw (cs:=fC p_f.f0 p_f.f1 p_f.f2 p_f.f3) (eG aGD (HW.out.underN hbe (Below.refl _ _) (.none _ _))) Tryz.underlying42 ?_)|((with_reducible refine gq 29 rfl ?_);refine gl (some 68) Tryz.func29 #[(.agg (fC _ _ _ _).toArray)] ?_;with_reducible refine(a9x aiy.out).mono ?_;rintro e KI ⟨rfl,hb⟩;refine⟨_,rfl,?_⟩;replace HW:=ah.mk (HW.out.quiet hb);clear hb))
     cases tf with
     |true=>
      go_wp2_with (fail)
      go_roundg (l9.length-(jq+1).toNat)
      case measure=>omega
      case rel=>exact⟨_,_,rfl,⟨⟨(by omega),(by omega),(by omega),(hF.yes (by omega) (by omega) aqs aiy.out)⟩⟩,⟨LW.less HW.out trivial (Mon.top _)⟩⟩
     |false=>
      go_wp2_with (fail)
      go_ret
      exact⟨by rw[hF.no (by omega) (by omega) aqs aiy.out]<;>rfl,(HW.out.underN hbe (Below.refl _ _) (.none _ _))⟩
    ·skip
     have a3b:=decide_eq_false c124
     go_upto_region 11 with(fail)
     have hFd_:=hF.done (by omega)
     cases tk1 with
     |true=>
      cases tk3 with
      |true=>
       cases fl with
       |true=>
        by_cases c139:(x5.size:Int)≤600
        ·skip
         have a2B:=decide_eq_true c139
         go_wp2_with (first|((with_reducible refine gd 71 rfl ?_);refine uN HW 0 1 (tC _ _) Tryz.underlying25 ?_)|((with_reducible refine gq 30 rfl ?_);refine gl (some 72) Tryz.func30 #[(.agg (tC _ _).toArray)] ?_;with_reducible refine(qi (hE.below (HW.out.underN hbe (Below.refl _ _) (.none _ _))).r1 Gv FJ.out).mono ?_;rintro e agX ⟨rfl,hb⟩;refine⟨_,rfl,?_⟩;replace HW:=ah.mk (HW.out.quiet hb);clear hb)|((with_reducible refine gd 75 rfl ?_);refine aM (by rfl) ?_;dsimp only;refine uN HW 0 3 (tC _ _) Tryz.underlying25 ?_)|(go_at_call 30;with_reducible refine(qi (hE.below (HW.out.underN hbe (Below.refl _ _) (.none _ _))).r3 KU KT.out).mono ?_;rintro e aht ⟨rfl,hb⟩;replace HW:=ah.mk (HW.out.quiet hb);clear hb)|((with_reducible refine gd 80 rfl ?_);refine aM (by rfl) ?_;dsimp only;refine uN HW 0 7 (oC _ _) Tryz.underlying28 ?_)|(go_at_call 31;with_reducible refine(Fu hfl.out).mono ?_;rintro e a9M ⟨rfl,hb⟩;replace HW:=ah.mk (HW.out.quiet hb);clear hb)|((with_reducible refine gd 85 rfl ?_);refine aM (by rfl) ?_;dsimp only;refine lls HW 0 5 (.string x5) Tryz.underlying9 ?_)|((with_reducible refine gd 91 rfl ?_);refine aM (by rfl) ?_;dsimp only;refine lls HW 0 9 (.slice A9 l9.length c9) Tryz.underlying29 ?_))
         go_ret
         exact⟨by first|rfl|(rw[hFd_];first|rfl|(simp;done)|(simp[*];done)|(simp[*];omega)),(HW.out.underN hbe (Below.refl _ _) (.none _ _))⟩
        ·skip
         have a2B:=decide_eq_false c139
         go_wp2_with (first|((with_reducible refine gd 71 rfl ?_);refine uN HW 0 1 (tC _ _) Tryz.underlying25 ?_)|((with_reducible refine gq 30 rfl ?_);refine gl (some 72) Tryz.func30 #[(.agg (tC _ _).toArray)] ?_;with_reducible refine(qi (hE.below (HW.out.underN hbe (Below.refl _ _) (.none _ _))).r1 Gv FJ.out).mono ?_;rintro e apQ ⟨rfl,hb⟩;refine⟨_,rfl,?_⟩;replace HW:=ah.mk (HW.out.quiet hb);clear hb)|((with_reducible refine gd 75 rfl ?_);refine aM (by rfl) ?_;dsimp only;refine uN HW 0 3 (tC _ _) Tryz.underlying25 ?_)|(go_at_call 30;with_reducible refine(qi (hE.below (HW.out.underN hbe (Below.refl _ _) (.none _ _))).r3 KU KT.out).mono ?_;rintro e a9P ⟨rfl,hb⟩;replace HW:=ah.mk (HW.out.quiet hb);clear hb)|((with_reducible refine gd 80 rfl ?_);refine aM (by rfl) ?_;dsimp only;refine uN HW 0 7 (oC _ _) Tryz.underlying28 ?_)|(go_at_call 31;with_reducible refine(Fu hfl.out).mono ?_;rintro e apr ⟨rfl,hb⟩;replace HW:=ah.mk (HW.out.quiet hb);clear hb)|((with_reducible refine gd 85 rfl ?_);refine aM (by rfl) ?_;dsimp only;refine lls HW 0 5 (.string x5) Tryz.underlying9 ?_))
         go_ret
         exact⟨by first|rfl|(rw[hFd_];first|rfl|(simp;done)|(simp[*];done)|(simp[*];omega)),(HW.out.underN hbe (Below.refl _ _) (.none _ _))⟩
       |false=>
        go_wp2_with (first|((with_reducible refine gd 71 rfl ?_);refine uN HW 0 1 (tC _ _) Tryz.underlying25 ?_)|((with_reducible refine gq 30 rfl ?_);refine gl (some 72) Tryz.func30 #[(.agg (tC _ _).toArray)] ?_;with_reducible refine(qi (hE.below (HW.out.underN hbe (Below.refl _ _) (.none _ _))).r1 Gv FJ.out).mono ?_;rintro e aFh ⟨rfl,hb⟩;refine⟨_,rfl,?_⟩;replace HW:=ah.mk (HW.out.quiet hb);clear hb)|((with_reducible refine gd 75 rfl ?_);refine aM (by rfl) ?_;dsimp only;refine uN HW 0 3 (tC _ _) Tryz.underlying25 ?_)|(go_at_call 30;with_reducible refine(qi (hE.below (HW.out.underN hbe (Below.refl _ _) (.none _ _))).r3 KU KT.out).mono ?_;rintro e ah0 ⟨rfl,hb⟩;replace HW:=ah.mk (HW.out.quiet hb);clear hb)|((with_reducible refine gd 80 rfl ?_);refine aM (by rfl) ?_;dsimp only;refine uN HW 0 7 (oC _ _) Tryz.underlying28 ?_)|(go_at_call 31;with_reducible refine(Fu hfl.out).mono ?_;rintro e apN ⟨rfl,hb⟩;replace HW:=ah.mk (HW.out.quiet hb);clear hb))
        go_ret
        exact⟨by first|rfl|(rw[hFd_];first|rfl|(simp;done)|(simp[*];done)|(simp[*];omega)),(HW.out.underN hbe (Below.refl _ _) (.none _ _))⟩
      |false=>
       go_wp2_with (first|((with_reducible refine gd 71 rfl ?_);refine uN HW 0 1 (tC _ _) Tryz.underlying25 ?_)|((with_reducible refine gq 30 rfl ?_);refine gl (some 72) Tryz.func30 #[(.agg (tC _ _).toArray)] ?_;with_reducible refine(qi (hE.below (HW.out.underN hbe (Below.refl _ _) (.none _ _))).r1 Gv FJ.out).mono ?_;rintro e a2C ⟨rfl,hb⟩;refine⟨_,rfl,?_⟩;replace HW:=ah.mk (HW.out.quiet hb);clear hb)|((with_reducible refine gd 75 rfl ?_);refine aM (by rfl) ?_;dsimp only;refine uN HW 0 3 (tC _ _) Tryz.underlying25 ?_)|(go_at_call 30;with_reducible refine(qi (hE.below (HW.out.underN hbe (Below.refl _ _) (.none _ _))).r3 KU KT.out).mono ?_;rintro e aai ⟨rfl,hb⟩;replace HW:=ah.mk (HW.out.quiet hb);clear hb))
       go_ret
       exact⟨by first|rfl|(rw[hFd_];first|rfl|(simp;done)|(simp[*];done)|(simp[*];omega)),(HW.out.underN hbe (Below.refl _ _) (.none _ _))⟩
     |false=>
      go_wp2_with (first|((with_reducible refine gd 71 rfl ?_);refine uN HW 0 1 (tC _ _) Tryz.underlying25 ?_)|((with_reducible refine gq 30 rfl ?_);refine gl (some 72) Tryz.func30 #[(.agg (tC _ _).toArray)] ?_;with_reducible refine(qi (hE.below (HW.out.underN hbe (Below.refl _ _) (.none _ _))).r1 Gv FJ.out).mono ?_;rintro e a2D ⟨rfl,hb⟩;refine⟨_,rfl,?_⟩;replace HW:=ah.mk (HW.out.quiet hb);clear hb))
      go_ret
      exact⟨by first|rfl|(rw[hFd_];first|rfl|(simp;done)|(simp[*];done)|(simp[*];omega)),(HW.out.underN hbe (Below.refl _ _) (.none _ _))⟩
theorem aiz{x:pV}(h:SOk x):SmS x:=by
 obtain⟨h2,h7,_,_,h3,h8⟩:=h
 have s2:=uH h2
 have s7:=uH h7
 exact⟨⟨by omega,s2.2⟩,by omega,⟨by omega,s7.2⟩,by omega⟩
theorem RO.out{w w':World}{N:Nat}{e:Ending}(h:RO w N e w'):∃x0 v1 x2 v3 x4 x5 v6 x7 x8 v9 x10,e= .returned (.agg (eC x0 v1 x2 v3 x4 x5 v6 x7 x8 v9 x10).toArray)∧DR w.heap.size w' N v1 v3 x5 v6 v9∧Below w.heap.size w w':=h
theorem DR.rd{b N:Nat}{w:World}{v1 v3 v6 v9:Value}{x5:ByteArray}(h:DR b w N v1 v3 x5 v6 v9)(hN:N≤1000000):∃l1 l3 l6 l9,Yd w v1 l1 v3 l3 v6 l6 v9 l9∧SmE l1 l3 x5 l6 l9∧(0<l6.length→∃k c,v6= .slice (some ⟨k,0,none⟩) l6.length c)∧l6.length≤N:=by
 obtain⟨⟨l1,h1,d1,z1⟩,⟨l3,h3,d3,z3⟩,c5,⟨A6,c6,l6,e6,hc6,hN6,C6,o6,k6⟩,⟨A9,c9,l9,e9,hc9,hN9,C9,o9,k9⟩⟩:=h
 obtain⟨A1,c1,e1,q1,C1⟩:=h1.slice
 obtain⟨A3,c3,e3,q3,C3⟩:=h3.slice
 refine⟨l1,l3,l6,l9,⟨⟨A1,c1,e1,q1,C1⟩,⟨A3,c3,e3,q3,C3⟩,⟨A6,c6,e6,hc6,C6,k6⟩,⟨A9,c9,e9,hc9,C9,k9⟩⟩,⟨d1.small (by omega),d3.small (by omega),by omega,⟨by omega,fun x hx=>aiz (o6 x hx)⟩,by omega,fun x hx=>by have:=o9 x hx;omega⟩,fun h=>?_,hN6⟩
 obtain⟨k,rfl⟩:=k6 h
 exact⟨k,c6,e6⟩
theorem aiA{w:World}{k:Nat}{l:List pV}(h:Kd.C Gc w (some ⟨k,0,none⟩) l.length l)(m:Nat)(hm:m≤l.length)(h0:0<l.length):
 ∃news:List Value,news.length=m*12∧(∀j u,news[j]?=some u→w.cell? ((⟨k,0,none⟩:Addr).add j)=some u)∧∀(j:Nat)(p:pV),j<m→l[j]?=some p→Gc.K w p (seg news.toArray j 12):=by
 obtain⟨ad,e,hq⟩:=h.2.2 h0
 obtain rfl:=Option.some.inj e
 obtain⟨L,hL,hLq⟩:=rV (Q:=fun j(cs:List Value)=>cs.length=12∧(∀p,l[j]?=some p→Gc.K w p cs)∧∀i u,cs[i]?=some u→w.cell? ((⟨k,0,none⟩:Addr).add (j*12+i))=some u) m (fun j hj=>by
  obtain⟨cs,h1,h2,h3⟩:=hq j l[j] (List.getElem?_eq_getElem (by omega))
  exact⟨cs,h1,fun p hp=>by rw[List.getElem?_eq_getElem (by omega)]at hp;injection hp with hp;exact hp▸h2,h3⟩)
 have hget:∀j,j<m*12→∃cs,L[j/12]?=some cs∧cs.length=12∧(L.getD (j/12) []).getD (j%12) undef=(cs[j%12]?).getD undef∧j%12<cs.length:=fun j hj=>by
  have hi:j/12<L.length:=by omega
  have hs:=hLq (j/12) _ (List.getElem?_eq_getElem hi)
  refine⟨_,List.getElem?_eq_getElem hi,hs.1,?_,by rw[hs.1];omega⟩
  simp only[List.getD_eq_getElem?_getD,List.getElem?_eq_getElem hi,Option.getD_some]
 refine⟨(List.range (m*12)).map (fun j=>(L.getD (j/12) []).getD (j%12) undef),by simp,fun j u hu=>?_,fun j p hj hp=>?_⟩
 ·rw[List.getElem?_map]at hu
  by_cases hj:j<m*12
  ·rw[List.getElem?_range hj]at hu
   obtain⟨cs,h1,h2,h3,h4⟩:=hget j hj
   have hu':(L.getD (j/12) []).getD (j%12) undef=u:=by simpa using hu
   rw[h3,List.getElem?_eq_getElem h4]at hu'
   have:=(hLq _ _ h1).2.2 (j%12) u (by rw[List.getElem?_eq_getElem h4];exact congrArg some hu')
   rwa[show j/12*12+j%12=j by omega]at this
  ·rw[List.getElem?_eq_none (by simp;omega)]at hu;cases hu
 ·obtain⟨cs,h1,h2,_⟩:=hget (j*12) (by omega)
  rw[show j*12/12=j by omega]at h1
  have hs:=hLq j cs h1
  have:seg ((List.range (m*12)).map (fun j=>(L.getD (j/12) []).getD (j%12) undef)).toArray j 12=cs:=by
   apply List.ext_getElem?
   intro q
   unfold seg
   rw[List.getElem?_take]
   by_cases hq:q<12
   ·rw[if_pos hq,List.getElem?_drop]
    obtain⟨cs',e1,e2,e3,e4⟩:=hget (j*12+q) (by omega)
    rw[show(j*12+q)/12=j by omega,h1]at e1
    obtain rfl:=Option.some.inj e1
    simp only[List.toList_toArray,List.getElem?_map,List.getElem?_range (show j*12+q<m*12 by omega),Option.map_some]
    rw[e3,show(j*12+q)%12=q by omega,List.getElem?_eq_getElem (by omega)]
    rfl
   ·rw[if_neg hq,List.getElem?_eq_none (by omega)]
  rw[this]
  exact hs.2.1 p hp
theorem adt{w:World}{k m:Nat}{cs:Array Value}{l:List pV}{p:pV}{ce:List Value}{news:List Value}{z:List Value}(hk:w.heap[k]?=some (.cells cs 39 (0,0)))(hce:ce.length=12)(hn:news.length=m*12)(e:cs=(ce++news++z).toArray)(hp:Gc.K w p ce)(hm:m≤l.length)(hK:∀(j:Nat)(p:pV),j<m→l[j]?=some p→Gc.K w p (seg news.toArray j 12))(hb:m≤1000000):Kd.C Gc w (some ⟨k,0,none⟩) (p::l.take m).length (p::l.take m):=by
 have hlen:(p::l.take m).length=1+m:=by simp;omega
 refine⟨rfl,by omega,fun _=>⟨_,rfl,fun j q hq=>?_⟩⟩
 have hj:j<1+m:=by rw[←hlen];exact(List.getElem?_eq_some_iff.1 hq).1
 have hseg:=xu ce news 1 m 12 j (.inr (by omega)) hn z (.inr (by omega)) (.inl hj)
 rw[show 1*12=12 from rfl,List.take_of_length_le (by omega),←e]at hseg
 have hcell:∀es,seg cs j 12=es→∀i u,es[i]?=some u→w.cell? ((⟨k,0,none⟩:Addr).add (j*12+i))=some u:=fun es he i u hu=>by
  rw[Addr.add_mid,au hk,Nat.zero_add];exact wE he hu
 by_cases h1:j<1
 ·obtain rfl:j=0:=by omega
  rw[if_pos (by omega)]at hseg
  have:seg ce.toArray 0 12=ce:=by unfold seg;rw[Nat.zero_mul,List.drop_zero];exact List.take_of_length_le (by simpa using Nat.le_of_eq hce)
  rw[this]at hseg
  simp only[List.getElem?_cons_zero,Option.some.injEq]at hq
  subst hq
  exact⟨ce,hce,hp,hcell _ hseg⟩
 ·rw[if_neg h1,if_pos hj]at hseg
  obtain⟨i,rfl⟩:∃i,j=i+1:=⟨j-1,by omega⟩
  rw[List.getElem?_cons_succ,List.getElem?_take,if_pos (by omega)]at hq
  rw[show i+1-1=i by omega]at hseg
  have:=hK i q (by omega) hq
  exact⟨_,Gc.K_len this,this,hcell _ hseg⟩
section
variable {P:Program} {ops:Array Oper} {o:Oper} {a:Act} {Q:Exit→Act→World→Prop} {K:Act→World→Prop} {W:World} {b:Nat} {w1:World} {L:List qW} {G:lM}
theorem LW.back{X:Nat→Prop}{M0 M:Nat→Nat→Prop}{x:qW}(h:LW b X M0 w1 (x::L) G M W):LW b X M0 w1 (L++[x]) G M W:=by
 refine⟨h.ts,?_,fun y hy=>h.bx y (by rcases List.mem_append.1 hy with h1|h1;exact List.mem_cons_of_mem _ h1;exact List.mem_cons.2 (.inl (List.mem_singleton.1 h1))),h.g,h.gm⟩
 have:=h.nd
 rw[List.map_cons,List.nodup_cons]at this
 rw[List.map_append,List.nodup_append]
 exact⟨this.2,by simp,fun a ha c hc=>by obtain rfl:c=x.g:=(by simpa using hc);exact fun e=>this.1 (e▸ha)⟩
theorem aiB{s x:Operand}{g k i m c:Nat}{ce:List Value}{z:Value}{l:List pV}{p:pV}(HW:ah (LW b NX vv w1 L G vv W))(hU:Below w1.heap.size w1 W)(hC:Kd.C Gc w1 (some ⟨k,0,none⟩) l.length l)(hm:m≤l.length)(h0:0<l.length)(hb:m≤1000000)(hp:Gc.K w1 p ce)(ei:L[i]?=some ⟨g,ce,39⟩)
 (hinfo:(P.info? 39).map (fun i=>(i.zero,i.size,i.bytes))=some (some z,12,136))(hzs:z.cells.size=12)(ht:P.underlying 26=some (.slice 39))
 (h:∀A' c'(R:List qW)w',ah (LW b NX vv w1 (L++R) G vv w')→(∀w2,BX R w2→w2.heap[g]?=some (.cells ce.toArray 39 (0,0))→Below w1.heap.size w1 w2→∃A c,(Value.slice A' (1+m) c')= .slice A (p::l.take m).length c∧(p::l.take m).length≤c∧Kd.C Gc w2 A (p::l.take m).length (p::l.take m)∧(0<(p::l.take m).length→∃k,A=some ⟨k,0,none⟩))→K (a.put o.dst (.slice A' (1+m) c')) w')
 (ho:o.op= .call {callee:=.builtin .append,args:=#[s,x],argTypes:=#[26,26]}:=by rfl)(hs:a.eval s= .slice (some ⟨g,0,none⟩) 1 1:=by rfl)(hx:a.eval x= .slice (some ⟨k,0,none⟩) m c:=by rfl):o.wp P a W K Q:=by
 cases hi:P.info? 39 with
 |none=>rw[hi]at hinfo;cases hinfo
 |some i0=>
  rw[hi]at hinfo
  simp only[Option.map_some,Option.some.injEq,Prod.mk.injEq]at hinfo
  obtain⟨hz,hsz,hby⟩:=hinfo
  have hce:ce.length=12:=Gc.K_len hp
  have hat:=HW.out.at i ei
  have hlen:(p::l.take m).length=1+m:=by simp;omega
  obtain⟨news,hn1,hn2,hn3⟩:=aiA hC m hm h0
  have hn2':∀j u,news[j]?=some u→W.cell? ((⟨k,0,none⟩:Addr).add j)=some u:=fun j u hu=>jG hU (hn2 j u hu)
  rcases Nat.eq_zero_or_pos m with h9|h9
  ·subst h9
   have hsrc:Src P i0.size 26 (.slice (some ⟨k,0,none⟩) 0 c) 0 [] W:=Src.ofSlice W ht _ 0 c [] (by simp) (fun j u hu=>by simp at hu) (fun u hu=>by cases hu)
   have hr:=run_append_nothing W 26 26 o.type 39 i0 ht hi (some ⟨g,0,none⟩) 1 1 (Nat.le_refl _) _ hsrc
   unfold Oper.wp execOp
   simp only[ho,resolve,invoke,builtin,Sem.run_bind,Sem.run_pure,Result.andThen_ok,List.map_toArray,List.map_cons,List.map_nil,hs,hx,hr]
   refine h (some ⟨g,0,none⟩) 1 [] W (by rw[List.append_nil];exact HW) (fun w2 _ hg hB=>?_)
   have hb2:=hB
   exact⟨_,1,by rw[hlen],by rw[hlen];exact Nat.le_refl _,adt (z:=[]) hg hce hn1 (by have:news=[]:=List.eq_nil_of_length_eq_zero (by omega);rw[this];simp) (Gc.K_below hb2 hp) hm (fun j q hj=>by omega) hb,fun _=>⟨g,rfl⟩⟩
  ·have hnb:(1+m)*i0.bytes≤140737488355328:=by rw[hby];omega
   have hr:=run_append_grow (P:=P) (w:=W) 26 o.type 39 i0 z ht hi hz ⟨g,0,none⟩ 1 1 ce (by rw[hsz];omega) (fun j u hu=>by rw[Addr.add_mid,au hat];simpa using hu) ⟨k,0,none⟩ m c news (by rw[hsz];exact hn1) hn2' (by omega) (by omega) (growslice_fits (by omega) hnb)
   have hge:=grownCap_ge W (1+m) 1 39
   unfold Oper.wp execOp
   simp only[ho,resolve,invoke,builtin,Sem.run_bind,Sem.run_pure,Result.andThen_ok,List.map_toArray,List.map_cons,List.map_nil,hs,hx,hr]
   generalize Builtin.zeroCells z.cells (grownCap W (1+m) 1 39-(1+m))=Z
   have e0:(ce.toArray++news.toArray++Z)=(ce++news++Z.toList).toArray:=by apply Array.ext';simp
   have hB:=Below.drew0 W (.cells (ce.toArray++news.toArray++Z) 39)
   refine h _ _ [⟨W.heap.size,ce++news++Z.toList,39⟩] _ ⟨HW.out.push rfl (by rw[←e0];exact heap_alloc_new W.drew _) hB (by decide) |>.back⟩ (fun w2 hB2 _ hb2=>?_)
   have hk2:=hB2.at 0 rfl
   exact⟨_,_,by rw[hlen],by rw[hlen];exact hge,adt (z:=Z.toList) hk2 hce hn1 rfl (Gc.K_below hb2 hp) hm (fun j q hj hq=>Gc.K_below hb2 (hn3 j q hj hq)) hb,fun _=>⟨_,rfl⟩⟩
end
section
variable {W w1:World} {v1 v3 v6 v9:Value} {l1 l3:List bg} {l6:List pV} {l9:List nC} {x0 x10 r:Bool} {x2 x4 x7 x8:Int} {x5:ByteArray}
theorem Yd.take{A:Option Addr}{n c:Nat}(h:Yd w1 v1 l1 v3 l3 (.slice A n c) l6 v9 l9)(m:Nat)(hm:m≤l6.length):Yd w1 v1 l1 v3 l3 (.slice A m c) (l6.take m) (.slice none 0 0) []:=by
 obtain⟨r1,r3,⟨A6,c6,e6,h6,C6,k6⟩,r9⟩:=h
 injection e6 with e1 e2 e3
 subst e1 e3
 have hl:(l6.take m).length=m:=by rw[List.length_take];omega
 exact⟨r1,r3,⟨A,c,by rw[hl],by rw[hl];omega,Kd.C_take C6 hm,fun h=>k6 (by omega)⟩,⟨none,0,rfl,Nat.le_refl _,Kd.C_nil _ _,fun h=>absurd h (Nat.lt_irrefl _)⟩⟩
theorem Q8(hs:SmE l1 l3 x5 l6 l9)(m:Nat):SmE l1 l3 (⟨#[]⟩:ByteArray) (l6.take m) []:=by
 obtain⟨h1,h3,_,⟨h6,s6⟩,_⟩:=hs
 exact⟨h1,h3,by decide,⟨by rw[List.length_take];omega,fun x hx=>s6 x (List.mem_of_mem_take hx)⟩,by decide,fun x hx=>by cases hx⟩
theorem aaG(hs:SmE l1 l3 x5 l6 l9)(m:Nat)(hm:m<l6.length){p:pV}(hp:p∈l6):SmE l1 l3 x5 (p::l6.take m) l9:=by
 obtain⟨h1,h3,h5,⟨h6,s6⟩,h9⟩:=hs
 refine⟨h1,h3,h5,⟨?_,fun x hx=>?_⟩,h9⟩
 ·rw[List.length_cons,List.length_take];omega
 ·rcases List.mem_cons.1 hx with rfl|hx
  ·exact s6 _ hp
  ·exact s6 x (List.mem_of_mem_take hx)
end
theorem aaH{w w1 w2:World}(h:Below w.heap.size w w1)(k:Below w1.heap.size w1 w2):Below w.heap.size w w2:=⟨k.os.trans h.os,k.tape.trans h.tape,k.output.trans h.output,Nat.le_trans h.size k.size,fun i hi=>(k.block i (Nat.lt_of_lt_of_le hi h.size)).trans (h.block i hi)⟩
def pI.T5:Bool×List (List Nat×List Nat):=(true,[([],[]),([],[]),([1],[1]),([],[]),([2,3],[2,3]),([4],[4]),([0,5],[0,5]),([6,6,0,1,2,3,4,5,6],[6])])
def pI.B5:List Nat:=[0,0,2,0,14,30,63,127]
theorem pI.tab5:jm .any (opsOf Tryz.f89 5)=pI.T5:=by kernel_rfl
theorem pI.bits5:fQ pI.T5.2 pI.B5=true:=by kernel_rfl
theorem CX{b N C:Nat}{w:World}{M:Nat→Nat→Prop}{x0:Bool}{v1:Value}{x2:Int}{v3:Value}{x4:Int}{x5:ByteArray}{v6:Value}{x7 x8:Int}{v9:Value}{x10:Bool}(hw:TW b M w)(hb0:b≤w.heap.size)(E:ET b M w N C v1 x2 v3 x4 x5 v6 v9)(hN:N≤3000000):Calls Tryz.prog 89 #[.agg (eC x0 v1 x2 v3 x4 x5 v6 x7 x8 v9 x10).toArray] w (Kz b M w N C (900*N)):=by
 obtain⟨A1,n1,c1,A3,n3,c3,A6,n6,c6,A9,n9,c9,rfl,rfl,rfl,rfl,Qg,Qh⟩:=E.form4
 have HW:ah (LW b NX M w [] (xw b N C (.slice A1 n1 c1) x2 (.slice A3 n3 c3) x4 x5 (.slice A6 n6 c6) (.slice A9 n9 c9)) M w):=⟨LW.start hw E (Mon.et _ _ _ _ _ _ _ _ _)⟩
 clear hw E
 go_enter Tryz.func89,Tryz.ntmps89
 go_wp2_with (first|((with_reducible refine gd 1 rfl ?_);refine lbx (N:=1) (t:=31) HW (eC x0 (.slice A1 n1 c1) x2 (.slice A3 n3 c3) x4 x5 (.slice A6 n6 c6) x7 x8 (.slice A9 n9 c9) x10) ?_;clear HW;intro g1 pF HW)|((with_reducible refine gd 2 rfl ?_);refine lbx (N:=2) (t:=31) HW zE ?_;clear HW;intro g2 xG HW))
 go_loopg [4,5] (N) (fun kq y4 y5 wq=>∃(Mq:Nat→Nat→Prop)(oq:ByteArray)(iq:Int)(x0r0:Bool)(A1r0:Option Addr)(n1r0:Nat)(c1r0:Nat)(x2r0:Int)(A3r0:Option Addr)(n3r0:Nat)(c3r0:Nat)(x4r0:Int)(x5r0:ByteArray)(A6r0:Option Addr)(n6r0:Nat)(c6r0:Nat)(x7r0:Int)(x8r0:Int)(A9r0:Option Addr)(n9r0:Nat)(c9r0:Nat)(x10r0:Bool),(y4= .string oq)∧(y5= .int .i64 iq)∧ah (0≤iq∧iq≤(N:Int)∧(oq.size:Int)≤300*iq∧N-iq.toNat≤kq)∧ah (LW b NX M w [⟨g2,eC false (.slice none 0 0) 0 (.slice none 0 0) 0 (⟨#[]⟩:ByteArray) (.slice none 0 0) 0 0 (.slice none 0 0) false,31⟩,⟨g1,eC x0r0 (.slice A1r0 n1r0 c1r0) x2r0 (.slice A3r0 n3r0 c3r0) x4r0 x5r0 (.slice A6r0 n6r0 c6r0) x7r0 x8r0 (.slice A9r0 n9r0 c9r0) x10r0,31⟩] (xw b N C (.slice A1r0 n1r0 c1r0) x2r0 (.slice A3r0 n3r0 c3r0) x4r0 x5r0 (.slice A6r0 n6r0 c6r0) (.slice A9r0 n9r0 c9r0)) Mq wq))
 case atStart=>exact⟨_,_,_,_,_,_,_,_,_,_,_,_,_,_,_,_,_,_,_,_,_,_,rfl,rfl,⟨⟨(by first|omega|(show((0:Nat):Int)≤300*0;decide)),(by first|omega|(show((0:Nat):Int)≤300*0;decide)),(by first|omega|(show((0:Nat):Int)≤300*0;decide)),(by first|omega|(show((0:Nat):Int)≤300*0;decide))⟩⟩,⟨LW.less HW.out (HW.out.g.up (by omega)) (Mon.et _ _ _ _ _ _ _ _ _)⟩⟩
 case round=>
  clear HW
  obtain⟨Mq,oq,iq,x0r0,A1r0,n1r0,c1r0,x2r0,A3r0,n3r0,c3r0,x4r0,x5r0,A6r0,n6r0,c6r0,x7r0,x8r0,A9r0,n9r0,c9r0,x10r0,rfl,rfl,HI,HC⟩:=hrel
  have HW:=HC
  clear HC
  obtain⟨aA2,aA3,aA4,aA5⟩:=HI.out
  have aGE:=SL.le HW.out.g.s6
  have aGF:=SL.le HW.out.g.s9
  go_upto_if 13 with(first|((with_reducible refine gd 11 rfl ?_);refine lls HW 1 9 (.slice A9r0 n9r0 c9r0) Tryz.underlying29 ?_))
  by_cases vw:iq<(n9r0:Int)
  ·skip
   have Q0:=decide_eq_true vw
   go_upto_region 5 with(fail)
   have adu:=(show 0≤iq∧iq<(n9r0:Int)from⟨by omega,by omega⟩)
   obtain⟨aiC,aqt,_,_⟩:=SL.has (HW.out.g.s9) (by omega)
   subst aqt
   obtain⟨f0_e1,f1_e1,f2_e1,f3_e1,hr_e1,hf_e1⟩:=HW.out.rd42 (HW.out.g.s9) (i:=iq) (by omega) (by omega)
   have pi_e1:=eq_true adu.1
   have qi_e1:=eq_true adu.2
   have aGG:=hf_e1.1
   refine nA HW (fun W=>W.rangeAt aiC (iq.toNat*4) (fC f0_e1 f1_e1 f2_e1 f3_e1)) [6,7] 8 (hr_e1) (fun PK HN hHeld=>?_)
   replace HW:=HN
   clear HN
   refine bR pI.tab5 pI.bits5 (fun HT_ HW_=>?_)
   refine tk 0 (some 16) (bm 8 1) rfl rfl hHeld ?_ (hy:=yld _ 1 0 (eC _ _ _ _ _ _ _ _ _ _ _) Tryz.underlying31)
   refine pw 1 (some 17) rfl rfl ?_
   refine tk 2 (some 18) (bm 8 7) rfl rfl hHeld ?_ (hy:=jQ _ 1 9 (.slice (some ⟨aiC,0,none⟩) n9r0 c9r0) Tryz.underlying29)
   refine pw 3 (some 19) rfl rfl ?_
   refine pw 4 (some 20) rfl rfl ?_
   refine tk 5 (some 21) (bm 8 63) rfl rfl hHeld ?_ (hy:=yrw (fC f0_e1 f1_e1 f2_e1 f3_e1) (fun W h=>h) Tryz.underlying42)
   refine kJ (i:=6) (N:=some 22) (bm 8 127) rfl rfl (bL HT_.out (by kernel_rfl)) (by decide) (fun K hK=>?_)
   refine gs Tryz.func92 #[(.agg (eC _ _ _ _ _ _ _ _ _ _ _).toArray),(.agg (fC _ _ _ _).toArray)] ?_
   with_reducible refine(Ta HW.out.ts.tw (HW.out.hb hb0) (N:=N) (C:=C) (HW.out.g.up (by omega)) (by omega) aGG).mono ?_
   rintro e AU h_
   obtain⟨aOJ,M_107,rfl,gQ⟩:=h_.out
   refine⟨_,rfl,?_⟩
   replace HW:=ah.mk (HW.out.call gQ)
   clear gQ
   refine hK.out _ _ ?_
   clear hK K
   refine nm ?_
   refine kJ (i:=7) (N:=none) (bm 8 255) rfl rfl (bL HT_.out (by kernel_rfl)) (by decide) (fun K hK=>?_)
   refine gF (by rfl) ?_
   refine oQ HW 1 0 (.agg (eC _ _ _ _ _ _ _ _ _ _ _).toArray) (eC _ _ _ _ _ _ _ _ _ _ _) (eC _ _ _ _ _ _ _ _ _ _ _) ?_ (fP rfl)
   clear HW
   intro AQ HW
   (try simp only[List.set_cons_zero,List.set_cons_succ]at HW)
   refine hK.out _ _ ?_
   clear hK K
   refine fw (dM HT_.out (by kernel_rfl)) ?_
   clear HT_ HW_
   go_upto_region 6 with(fail)
   have AZ:=(show 0≤iq∧iq<(n9r0:Int)from⟨by omega,by omega⟩)
   obtain⟨f0_f,f1_f,f2_f,f3_f,hr_f,hf_f⟩:=HW.out.rd42 (HW.out.g.s9) (i:=iq) (by omega) (by omega)
   have Yt:=eq_true AZ.1
   have Yu:=eq_true AZ.2
   have aSF:=hf_f.2
   go_wp2_with (first|((with_reducible refine gd 25 rfl ?_);refine lls HW 1 9 (.slice (some ⟨aiC,0,none⟩) n9r0 c9r0) Tryz.underlying29 ?_)|((with_reducible refine gd 28 rfl ?_);refine lrw (cs:=fC f0_f f1_f f2_f f3_f) hr_f Tryz.underlying42 ?_)|((with_reducible refine gq 93 rfl ?_);refine gl (some 29) Tryz.func93 #[(.agg (fC _ _ _ _).toArray)] ?_;with_reducible refine(KE f0_f f1_f f2_f f3_f (by omega)).mono ?_;rintro e Cb ⟨a3c,rfl,Ed,hb⟩;refine⟨_,rfl,?_⟩;replace Ed:=ah.mk Ed;replace HW:=ah.mk (HW.out.quiet hb);clear hb;have Sy:(9223372036854775807<oq.size+a3c.size)=False:=eq_false (by have:=Ed.out;omega)))
   have aGH:(oq++a3c).size=oq.size+a3c.size:=bf _ _
   have aSG:=Ed.out
   go_roundg (N-(iq+1).toNat)
   case measure=>omega
   case rel=>exact⟨_,_,_,_,_,_,_,_,_,_,_,_,_,_,_,_,_,_,_,_,_,_,rfl,rfl,⟨⟨(by omega),(by omega),(by omega),(by omega)⟩⟩,⟨LW.less HW.out (HW.out.g.up (by omega)) (Mon.et _ _ _ _ _ _ _ _ _)⟩⟩
  ·skip
   have Q0:=decide_eq_false vw
   go_wp2_with (first|((with_reducible refine gd 31 rfl ?_);refine lbe (N:=31) (t:=42) HW (HW.out.hb hb0) ?_;intro v_ aSH AV HN pJ gQ;obtain⟨aGI,n113,xM,rfl,aqu⟩:∃A n c,v_= .slice A n c∧n=0:=pJ.zero;subst aqu;replace HW:=ah.mk (LW.sl HN.out pJ);clear HN pJ gQ)|((with_reducible refine aj (t:=29) (p:=32) rfl ?_);refine mP HW 1 9 (.slice aGI 0 xM) (eC _ _ _ _ _ _ _ _ _ _ _) ([_]) ?_ (fP rfl);clear HW;intro Dh HW;(try simp only[List.set_cons_zero,List.set_cons_succ]at HW)))
   go_loopg [4,6] (N) (fun kq y4 y6 wq=>∃(Mq:Nat→Nat→Prop)(ou:ByteArray)(ku:Int)(x0r1:Bool)(A1r1:Option Addr)(n1r1:Nat)(c1r1:Nat)(x2r1:Int)(A3r1:Option Addr)(n3r1:Nat)(c3r1:Nat)(x4r1:Int)(x5r1:ByteArray)(A6r1:Option Addr)(n6r1:Nat)(c6r1:Nat)(x7r1:Int)(x8r1:Int)(A9r1:Option Addr)(n9r1:Nat)(c9r1:Nat)(x10r1:Bool),(y4= .string ou)∧(y6= .int .i64 ku)∧ah (0≤ku∧ku≤(N:Int)∧(ou.size:Int)≤300*(N:Int)+600*ku∧N-ku.toNat≤kq)∧ah (LW b NX M w [⟨g2,eC false (.slice none 0 0) 0 (.slice none 0 0) 0 (⟨#[]⟩:ByteArray) (.slice none 0 0) 0 0 (.slice none 0 0) false,31⟩,⟨g1,eC x0r1 (.slice A1r1 n1r1 c1r1) x2r1 (.slice A3r1 n3r1 c3r1) x4r1 x5r1 (.slice A6r1 n6r1 c6r1) x7r1 x8r1 (.slice A9r1 n9r1 c9r1) x10r1,31⟩] (xw b N C (.slice A1r1 n1r1 c1r1) x2r1 (.slice A3r1 n3r1 c3r1) x4r1 x5r1 (.slice A6r1 n6r1 c6r1) (.slice A9r1 n9r1 c9r1)) Mq wq))
   case atStart=>exact⟨_,_,_,_,_,_,_,_,_,_,_,_,_,_,_,_,_,_,_,_,_,_,rfl,rfl,⟨⟨(by omega),(by omega),(by omega),(by omega)⟩⟩,⟨LW.less HW.out ⟨HW.out.g.1.t1,HW.out.g.1.t3,HW.out.g.1.c5,(HW.out.g.1.s6.mono (N':=N) (by omega)),(HW.out.g.2.mono (N':=N) (by omega))⟩ (Mon.et _ _ _ _ _ _ _ _ _)⟩⟩
   case round=>
    clear HW
    obtain⟨Mq,ou,ku,x0r1,A1r1,n1r1,c1r1,x2r1,A3r1,n3r1,c3r1,x4r1,x5r1,A6r1,n6r1,c6r1,x7r1,x8r1,A9r1,n9r1,c9r1,x10r1,rfl,rfl,HI,HC⟩:=hrel
    have HW:=HC
    clear HC
    obtain⟨aA6,aA7,aA8,aA9⟩:=HI.out
    have aGE:=SL.le HW.out.g.s6
    have aGF:=SL.le HW.out.g.s9
    go_upto_if 37 with(first|((with_reducible refine gd 35 rfl ?_);refine lls HW 1 6 (.slice A6r1 n6r1 c6r1) Tryz.underlying26 ?_))
    by_cases c116:ku<(n6r1:Int)
    ·skip
     have WA:=decide_eq_true c116
     go_upto_region 11 with(fail)
     go_upto_region 13 with(first|((with_reducible refine gd 41 rfl ?_);refine lE HW 1 0 ?_)|((with_reducible refine gq 94 rfl ?_);refine gl (some 43) Tryz.func94 #[(.agg (eC _ _ _ _ _ _ _ _ _ _ _).toArray),(.int .i64 ku)] ?_;with_reducible refine(Yh HW.out.ts.tw (HW.out.hb hb0) (N:=N) (C:=C) (HW.out.g.up (by omega)) (by omega) (fun A n c e=>by injection e with e1 e2 e3;omega)).mono ?_;rintro e yM h_;obtain⟨E_,Tc,M_117,rfl,gQ,hE_,hzss_117⟩:=h_.out;refine⟨_,rfl,?_⟩;obtain⟨a2J,a2K,a2L,a2M,a2N,a2O,a2P,a2Q,a2R,SB,a2S,a2T,a2U,a2V,a2W,a2X,a2Y,a2Z,WL,rfl,hF_,WM,WN⟩:=hE_.out4;clear hE_;replace HW:=ah.mk (LW.et (HW.out.call gQ) hF_);clear gQ hF_)|((with_reducible refine gd 7 rfl ?_);refine lbx (N:=7) (t:=31) HW zE ?_;clear HW;intro g7 xI HW)|((with_reducible refine aj (t:=31) (p:=7) rfl ?_);refine iA HW 0 ?_;clear HW;intro Cc HW;(try simp only[List.set_cons_zero,List.set_cons_succ]at HW))|((with_reducible refine gd 46 rfl ?_);refine lE HW 0 0 ?_)|((with_reducible refine aj (t:=31) (p:=1) rfl ?_);refine iA HW 2 ?_;clear HW;intro yN HW;(try simp only[List.set_cons_zero,List.set_cons_succ]at HW)))
     have Sy:(9223372036854775807<ou.size+Tc.size)=False:=eq_false (by omega)
     go_wp2_with (fail)
     have aGH:(ou++Tc).size=ou.size+Tc.size:=bf _ _
     go_roundg (N-(ku+1).toNat)
     case measure=>omega
     case rel=>exact⟨_,_,_,_,_,_,_,_,_,_,_,_,_,_,_,_,_,_,_,_,_,_,rfl,rfl,⟨⟨(by omega),(by omega),(by omega),(by omega)⟩⟩,⟨LW.less HW.out.drop (HW.out.g.2.up (by omega)) (Mon.et _ _ _ _ _ _ _ _ _)⟩⟩
    ·skip
     have WA:=decide_eq_false c116
     go_wp2_with (first|((with_reducible refine gd 50 rfl ?_);refine lE HW 1 0 ?_)|((with_reducible refine aj (t:=31) (p:=2) rfl ?_);refine iA HW 0 ?_;clear HW;intro AR HW;(try simp only[List.set_cons_zero,List.set_cons_succ]at HW)))
     refine bodyPost_ret (fu rfl _ _ g2 31 (eC _ _ _ _ _ _ _ _ _ _ _).toArray (0,0) _ rfl (HW.out.at 0 rfl) Tryz.underlying31 rfl (by kernel_rfl)) rfl ?_
     exact⟨_,_,_,rfl,HW.out.ts,⟨_,_,_,_,_,_,_,_,_,_,_,rfl,(HW.out.g.up (by omega))⟩,(by omega)⟩
theorem Yj{b N:Nat}{w:World}{M:Nat→Nat→Prop}{x0:Bool}{v1:Value}{x2:Int}{v3:Value}{x4:Int}{x5:ByteArray}{v6:Value}{x7 x8:Int}{v9:Value}{x10:Bool}{y0:Bool}{u1:Value}{y2:Int}{u3:Value}{y4:Int}{y5:ByteArray}{u6:Value}{y7 y8:Int}{u9:Value}{xD:Bool}{su sd:ByteArray}{side:Int}(hw:TW b M w)(hb0:b≤w.heap.size)(E:ET b M w N 700 v1 x2 v3 x4 x5 v6 v9)(F:ET b M w N 700 u1 y2 u3 y4 y5 u6 u9)(hN:N≤1000000)(hsu:su.size≤800)(hsd:sd.size≤800):Calls Tryz.prog 82 #[.agg (wC x0 v1 x2 v3 x4 x5 v6 x7 x8 v9 x10 y0 u1 y2 u3 y4 y5 u6 y7 y8 u9 xD su sd).toArray,.int .i64 side] w (Ik b M w N):=by
 obtain⟨A1,n1,c1,A3,n3,c3,A6,n6,c6,A9,n9,c9,rfl,rfl,rfl,rfl,Qg,Qh⟩:=E.form4
 obtain⟨B1,m1,k1,B3,m3,k3,B6,m6,k6,B9,m9,k9,rfl,rfl,rfl,rfl,hm6,hm9⟩:=F.form4
 have HW:ah (LW b NX M w [] (xw b N 700 (.slice A1 n1 c1) x2 (.slice A3 n3 c3) x4 x5 (.slice A6 n6 c6) (.slice A9 n9 c9)) M w):=⟨LW.start hw E (Mon.et _ _ _ _ _ _ _ _ _)⟩
 replace HW:=ah.mk (LW.fact (H:=xw b N 700 (.slice B1 m1 k1) y2 (.slice B3 m3 k3) y4 y5 (.slice B6 m6 k6) (.slice B9 m9 k9)) HW.out F (Mon.et _ _ _ _ _ _ _ _ _))
 clear hw E F
 go_enter Tryz.func82,Tryz.ntmps82
 go_upto_if 10 with(first|((with_reducible refine gd 2 rfl ?_);refine lbx (N:=2) (t:=47) HW (wC x0 (.slice A1 n1 c1) x2 (.slice A3 n3 c3) x4 x5 (.slice A6 n6 c6) x7 x8 (.slice A9 n9 c9) x10 y0 (.slice B1 m1 k1) y2 (.slice B3 m3 k3) y4 y5 (.slice B6 m6 k6) y7 y8 (.slice B9 m9 k9) xD su sd) ?_;clear HW;intro g2 pF HW)|((with_reducible refine gd 4 rfl ?_);refine lbx (N:=4) (t:=47) HW zW ?_;clear HW;intro g4 xG HW))
 by_cases KW:side=0
 ·skip
  subst KW
  go_upto_region 4 with(first|((with_reducible refine gd 14 rfl ?_);refine lE HW 1 0 ?_)|((with_reducible refine gq 24 rfl ?_);refine gl (some 15) Tryz.func24 #[(.agg (eC _ _ _ _ _ _ _ _ _ _ _).toArray)] ?_;with_reducible refine(Fw HW.out.ts.tw (HW.out.hb hb0) (N:=N) (C:=700) (HW.out.g.1.up (by omega)) (by omega)).mono ?_;rintro e xH h_;obtain⟨E_,M_104,rfl,gQ,hE_⟩:=h_.out;refine⟨_,rfl,?_⟩;obtain⟨SC,KZ,L6,L8,SF,L9,La,Lb,SG,SH,SI,SK,SN,SQ,SS,Lc,Ga,Ld,Le,rfl,hF_,WO,WQ⟩:=hE_.out4;clear hE_;replace HW:=ah.mk (LW.et (HW.out.call gQ) hF_);clear gQ hF_)|((with_reducible refine gq 89 rfl ?_);refine gl (some 16) Tryz.func89 #[(.agg (eC _ _ _ _ _ _ _ _ _ _ _).toArray)] ?_;with_reducible refine(CX HW.out.ts.tw (HW.out.hb hb0) (N:=N) (C:=700) (HW.out.g.2.up (by omega)) (by omega)).mono ?_;rintro e vZ h_;obtain⟨E_,Lg,M_106,rfl,gQ,hE_,hzss_106⟩:=h_.out;refine⟨_,rfl,?_⟩;obtain⟨aGJ,aGK,aGL,aGM,aGN,aGO,aGP,aGQ,aGR,aGS,aGT,aGU,aGV,aGW,aGX,aGY,aGZ,aH0,aAa,rfl,hF_,aAb,aAc⟩:=hE_.out4;clear hE_;replace HW:=ah.mk (LW.et (HW.out.call gQ) hF_);clear gQ hF_)|((with_reducible refine gd 5 rfl ?_);refine lbx (N:=5) (t:=31) HW zE ?_;clear HW;intro g5 AU HW)|((with_reducible refine aj (t:=31) (p:=5) rfl ?_);refine iA HW 0 ?_;clear HW;intro AQ HW;(try simp only[List.set_cons_zero,List.set_cons_succ]at HW)))
  cases x10 with
  |true=>
   go_wp2_with (first|((with_reducible refine gd 21 rfl ?_);refine lls HW 2 10 (.bool true) Tryz.underlying4 ?_)|((with_reducible refine gd 68 rfl ?_);refine CU HW 2 0 ?_)|((with_reducible refine aj (t:=47) (p:=4) rfl ?_);refine iA HW 1 ?_;clear HW;intro FB HW;(try simp only[List.set_cons_zero,List.set_cons_succ]at HW)))
   refine bodyPost_ret (results_cell_row rfl _ _ g4 47 (wC _ _ _ _ _ _ _ _ _ _ _ _ _ _ _ _ _ _ _ _ _ _ _ _).toArray (0,0) _ rfl (HW.out.at 1 rfl) Tryz.underlying47 rfl (by kernel_rfl)) rfl ?_
   exact⟨_,_,rfl,HW.out.ts,⟨_,_,_,_,_,_,_,_,_,_,_,_,_,_,_,_,_,_,_,_,_,_,_,_,rfl,(HW.out.g.1.1.1.up (by omega)),(HW.out.g.1.1.2.up (by omega)),hsu,hsd⟩⟩
  |false=>
   have adm:=HW.out.cell (v:=(.string su)) 2 22
   go_upto_if 31 with(first|((with_reducible refine gd 21 rfl ?_);refine lls HW 2 10 (.bool false) Tryz.underlying4 ?_))
   by_cases xM:(su.size:Int)+(Lg.size:Int)≤800
   ·skip
    have WI:=decide_eq_true xM
    go_upto_region 6 with(first|((with_reducible refine gd 32 rfl ?_);refine lE HW 0 0 ?_)|((with_reducible refine aj (t:=31) (p:=33) rfl ?_);refine mP HW 2 0 (.agg (eC _ _ _ _ _ _ _ _ _ _ _).toArray) (wC _ _ _ _ _ _ _ _ _ _ _ _ _ _ _ _ _ _ _ _ _ _ _ _) (eC _ _ _ _ _ _ _ _ _ _ _) ?_ (fP rfl);clear HW;intro Dh HW;(try simp only[List.set_cons_zero,List.set_cons_succ]at HW)))
    have Sy:(9223372036854775807<su.size+Lg.size)=False:=eq_false (by omega)
    have Yi:(su++Lg).size≤800:=by rw[bf];omega
    go_wp2_with (first|((with_reducible refine gd 35 rfl ?_);refine lls HW 2 22 (.string su) Tryz.underlying9 ?_)|((with_reducible refine aj (t:=9) (p:=38) rfl ?_);refine mP HW 2 22 (.string (su++Lg)) (wC _ _ _ _ _ _ _ _ _ _ _ _ _ _ _ _ _ _ _ _ _ _ _ _) ([_]) ?_ (fP rfl);clear HW;intro KO HW;(try simp only[List.set_cons_zero,List.set_cons_succ]at HW))|((with_reducible refine gd 68 rfl ?_);refine CU HW 2 0 ?_)|((with_reducible refine aj (t:=47) (p:=4) rfl ?_);refine iA HW 1 ?_;clear HW;intro yO HW;(try simp only[List.set_cons_zero,List.set_cons_succ]at HW)))
    refine bodyPost_ret (results_cell_row rfl _ _ g4 47 (wC _ _ _ _ _ _ _ _ _ _ _ _ _ _ _ _ _ _ _ _ _ _ _ _).toArray (0,0) _ rfl (HW.out.at 1 rfl) Tryz.underlying47 rfl (by kernel_rfl)) rfl ?_
    exact⟨_,_,rfl,HW.out.ts,⟨_,_,_,_,_,_,_,_,_,_,_,_,_,_,_,_,_,_,_,_,_,_,_,_,rfl,(HW.out.g.2.up (by omega)),(HW.out.g.1.1.2.up (by omega)),Yi,hsd⟩⟩
   ·skip
    have WI:=decide_eq_false xM
    go_wp2_with (first|((with_reducible refine gd 68 rfl ?_);refine CU HW 2 0 ?_)|((with_reducible refine aj (t:=47) (p:=4) rfl ?_);refine iA HW 1 ?_;clear HW;intro yL HW;(try simp only[List.set_cons_zero,List.set_cons_succ]at HW)))
    refine bodyPost_ret (results_cell_row rfl _ _ g4 47 (wC _ _ _ _ _ _ _ _ _ _ _ _ _ _ _ _ _ _ _ _ _ _ _ _).toArray (0,0) _ rfl (HW.out.at 1 rfl) Tryz.underlying47 rfl (by kernel_rfl)) rfl ?_
    exact⟨_,_,rfl,HW.out.ts,⟨_,_,_,_,_,_,_,_,_,_,_,_,_,_,_,_,_,_,_,_,_,_,_,_,rfl,(HW.out.g.1.1.1.up (by omega)),(HW.out.g.1.1.2.up (by omega)),hsu,hsd⟩⟩
 ·skip
  have WH:(side==0)=false:=beq_eq_false_iff_ne.mpr KW
  have aOK:(side != 0)=true:=bne_iff_ne.mpr KW
  go_upto_if 39 with(fail)
  by_cases Q6:side=1
  ·skip
   subst Q6
   go_upto_region 9 with(first|((with_reducible refine gd 43 rfl ?_);refine lE HW 1 11 ?_)|((with_reducible refine gq 24 rfl ?_);refine gl (some 44) Tryz.func24 #[(.agg (eC _ _ _ _ _ _ _ _ _ _ _).toArray)] ?_;with_reducible refine(Fw HW.out.ts.tw (HW.out.hb hb0) (N:=N) (C:=700) (HW.out.g.2.up (by omega)) (by omega)).mono ?_;rintro e Cc h_;obtain⟨E_,M_119,rfl,gQ,hE_⟩:=h_.out;refine⟨_,rfl,?_⟩;obtain⟨aH1,aH2,aH3,aH4,aH5,aH6,aH7,aH8,aH9,aHa,aHb,aHc,aHd,aHe,aHf,aHg,aHh,aHi,aAd,rfl,hF_,aAe,aAf⟩:=hE_.out4;clear hE_;replace HW:=ah.mk (LW.et (HW.out.call gQ) hF_);clear gQ hF_)|((with_reducible refine gq 89 rfl ?_);refine gl (some 45) Tryz.func89 #[(.agg (eC _ _ _ _ _ _ _ _ _ _ _).toArray)] ?_;with_reducible refine(CX HW.out.ts.tw (HW.out.hb hb0) (N:=N) (C:=700) (HW.out.g.2.up (by omega)) (by omega)).mono ?_;rintro e AR h_;obtain⟨E_,Lh,M_121,rfl,gQ,hE_,hzss_121⟩:=h_.out;refine⟨_,rfl,?_⟩;obtain⟨aiD,aiE,aiF,aiG,aiH,aiI,aiJ,aiK,aiL,aiM,aiN,aiO,aiP,aiQ,aiR,aiS,aiT,aiU,aaI,rfl,hF_,aaJ,aaK⟩:=hE_.out4;clear hE_;replace HW:=ah.mk (LW.et (HW.out.call gQ) hF_);clear gQ hF_)|((with_reducible refine gd 7 rfl ?_);refine lbx (N:=7) (t:=31) HW zE ?_;clear HW;intro g7 Gu HW)|((with_reducible refine aj (t:=31) (p:=7) rfl ?_);refine iA HW 0 ?_;clear HW;intro Fv HW;(try simp only[List.set_cons_zero,List.set_cons_succ]at HW)))
   cases xD with
   |true=>
    go_wp2_with (first|((with_reducible refine gd 50 rfl ?_);refine lls HW 2 21 (.bool true) Tryz.underlying4 ?_)|((with_reducible refine gd 68 rfl ?_);refine CU HW 2 0 ?_)|((with_reducible refine aj (t:=47) (p:=4) rfl ?_);refine iA HW 1 ?_;clear HW;intro KJ HW;(try simp only[List.set_cons_zero,List.set_cons_succ]at HW)))
    refine bodyPost_ret (results_cell_row rfl _ _ g4 47 (wC _ _ _ _ _ _ _ _ _ _ _ _ _ _ _ _ _ _ _ _ _ _ _ _).toArray (0,0) _ rfl (HW.out.at 1 rfl) Tryz.underlying47 rfl (by kernel_rfl)) rfl ?_
    exact⟨_,_,rfl,HW.out.ts,⟨_,_,_,_,_,_,_,_,_,_,_,_,_,_,_,_,_,_,_,_,_,_,_,_,rfl,(HW.out.g.1.1.1.up (by omega)),(HW.out.g.1.1.2.up (by omega)),hsu,hsd⟩⟩
   |false=>
    have aOL:=HW.out.cell (v:=(.string sd)) 2 23
    go_upto_if 60 with(first|((with_reducible refine gd 50 rfl ?_);refine lls HW 2 21 (.bool false) Tryz.underlying4 ?_))
    by_cases xK:(sd.size:Int)+(Lh.size:Int)≤800
    ·skip
     have PN:=decide_eq_true xK
     go_upto_region 11 with(first|((with_reducible refine gd 61 rfl ?_);refine lE HW 0 0 ?_)|((with_reducible refine aj (t:=31) (p:=62) rfl ?_);refine mP HW 2 11 (.agg (eC _ _ _ _ _ _ _ _ _ _ _).toArray) (wC _ _ _ _ _ _ _ _ _ _ _ _ _ _ _ _ _ _ _ _ _ _ _ _) (eC _ _ _ _ _ _ _ _ _ _ _) ?_ (fP rfl);clear HW;intro Sd HW;(try simp only[List.set_cons_zero,List.set_cons_succ]at HW)))
     have Sy:(9223372036854775807<sd.size+Lh.size)=False:=eq_false (by omega)
     have Yi:(sd++Lh).size≤800:=by rw[bf];omega
     go_wp2_with (first|((with_reducible refine gd 64 rfl ?_);refine lls HW 2 23 (.string sd) Tryz.underlying9 ?_)|((with_reducible refine aj (t:=9) (p:=67) rfl ?_);refine mP HW 2 23 (.string (sd++Lh)) (wC _ _ _ _ _ _ _ _ _ _ _ _ _ _ _ _ _ _ _ _ _ _ _ _) ([_]) ?_ (fP rfl);clear HW;intro aar HW;(try simp only[List.set_cons_zero,List.set_cons_succ]at HW))|((with_reducible refine gd 68 rfl ?_);refine CU HW 2 0 ?_)|((with_reducible refine aj (t:=47) (p:=4) rfl ?_);refine iA HW 1 ?_;clear HW;intro PO HW;(try simp only[List.set_cons_zero,List.set_cons_succ]at HW)))
     refine bodyPost_ret (results_cell_row rfl _ _ g4 47 (wC _ _ _ _ _ _ _ _ _ _ _ _ _ _ _ _ _ _ _ _ _ _ _ _).toArray (0,0) _ rfl (HW.out.at 1 rfl) Tryz.underlying47 rfl (by kernel_rfl)) rfl ?_
     exact⟨_,_,rfl,HW.out.ts,⟨_,_,_,_,_,_,_,_,_,_,_,_,_,_,_,_,_,_,_,_,_,_,_,_,rfl,(HW.out.g.1.1.1.up (by omega)),(HW.out.g.2.up (by omega)),hsu,Yi⟩⟩
    ·skip
     have PN:=decide_eq_false xK
     go_wp2_with (first|((with_reducible refine gd 68 rfl ?_);refine CU HW 2 0 ?_)|((with_reducible refine aj (t:=47) (p:=4) rfl ?_);refine iA HW 1 ?_;clear HW;intro aal HW;(try simp only[List.set_cons_zero,List.set_cons_succ]at HW)))
     refine bodyPost_ret (results_cell_row rfl _ _ g4 47 (wC _ _ _ _ _ _ _ _ _ _ _ _ _ _ _ _ _ _ _ _ _ _ _ _).toArray (0,0) _ rfl (HW.out.at 1 rfl) Tryz.underlying47 rfl (by kernel_rfl)) rfl ?_
     exact⟨_,_,rfl,HW.out.ts,⟨_,_,_,_,_,_,_,_,_,_,_,_,_,_,_,_,_,_,_,_,_,_,_,_,rfl,(HW.out.g.1.1.1.up (by omega)),(HW.out.g.1.1.2.up (by omega)),hsu,hsd⟩⟩
  ·skip
   have adp:(side==1)=false:=beq_eq_false_iff_ne.mpr Q6
   have aOM:(side != 1)=true:=bne_iff_ne.mpr Q6
   go_wp2_with (first|((with_reducible refine gd 68 rfl ?_);refine CU HW 1 0 ?_)|((with_reducible refine aj (t:=47) (p:=4) rfl ?_);refine iA HW 0 ?_;clear HW;intro a2y HW;(try simp only[List.set_cons_zero,List.set_cons_succ]at HW)))
   refine bodyPost_ret (results_cell_row rfl _ _ g4 47 (wC _ _ _ _ _ _ _ _ _ _ _ _ _ _ _ _ _ _ _ _ _ _ _ _).toArray (0,0) _ rfl (HW.out.at 0 rfl) Tryz.underlying47 rfl (by kernel_rfl)) rfl ?_
   exact⟨_,_,rfl,HW.out.ts,⟨_,_,_,_,_,_,_,_,_,_,_,_,_,_,_,_,_,_,_,_,_,_,_,_,rfl,(HW.out.g.1.up (by omega)),(HW.out.g.2.up (by omega)),hsu,hsd⟩⟩
theorem Q9{b N:Nat}{w:World}{M:Nat→Nat→Prop}{x0:Bool}{v1:Value}{x2:Int}{v3:Value}{x4:Int}{x5:ByteArray}{v6:Value}{x7 x8:Int}{v9:Value}{x10:Bool}{y0:Bool}{u1:Value}{y2:Int}{u3:Value}{y4:Int}{y5:ByteArray}{u6:Value}{y7 y8:Int}{u9:Value}{xD:Bool}{su sd:ByteArray}{e0 e1 e2:Int}{e3 e4:ByteArray}(hw:TW b M w)(hb0:b≤w.heap.size)(E:ET b M w N 700 v1 x2 v3 x4 x5 v6 v9)(F:ET b M w N 700 u1 y2 u3 y4 y5 u6 u9)(hN:N≤1000000)(hsu:su.size≤800)(hsd:sd.size≤800)(he3:e3.size≤1000)(he4:e4.size≤1000):Calls Tryz.prog 71 #[.agg (wC x0 v1 x2 v3 x4 x5 v6 x7 x8 v9 x10 y0 u1 y2 u3 y4 y5 u6 y7 y8 u9 xD su sd).toArray,.agg (vC e0 e1 e2 e3 e4).toArray] w (Ik b M w (N+700)):=by
 obtain⟨A1,n1,c1,A3,n3,c3,A6,n6,c6,A9,n9,c9,rfl,rfl,rfl,rfl,Qg,Qh⟩:=E.form4
 obtain⟨B1,m1,k1,B3,m3,k3,B6,m6,k6,B9,m9,k9,rfl,rfl,rfl,rfl,hm6,hm9⟩:=F.form4
 have HW:ah (LW b NX M w [] (xw b N 700 (.slice A1 n1 c1) x2 (.slice A3 n3 c3) x4 x5 (.slice A6 n6 c6) (.slice A9 n9 c9)) M w):=⟨LW.start hw E (Mon.et _ _ _ _ _ _ _ _ _)⟩
 replace HW:=ah.mk (LW.fact (H:=xw b N 700 (.slice B1 m1 k1) y2 (.slice B3 m3 k3) y4 y5 (.slice B6 m6 k6) (.slice B9 m9 k9)) HW.out F (Mon.et _ _ _ _ _ _ _ _ _))
 clear hw E F
 go_enter Tryz.func71,Tryz.ntmps71
 go_upto_if 12 with(first|((with_reducible refine gd 2 rfl ?_);refine lbx (N:=2) (t:=47) HW (wC x0 (.slice A1 n1 c1) x2 (.slice A3 n3 c3) x4 x5 (.slice A6 n6 c6) x7 x8 (.slice A9 n9 c9) x10 y0 (.slice B1 m1 k1) y2 (.slice B3 m3 k3) y4 y5 (.slice B6 m6 k6) y7 y8 (.slice B9 m9 k9) xD su sd) ?_;clear HW;intro g2 pF HW)|((with_reducible refine gd 3 rfl ?_);refine lbx (N:=3) (t:=99) HW (vC e0 e1 e2 e3 e4) ?_;clear HW;intro g3 xG HW)|((with_reducible refine gd 4 rfl ?_);refine lbx (N:=4) (t:=47) HW zW ?_;clear HW;intro g4 AX HW)|((with_reducible refine gd 11 rfl ?_);refine lls HW 1 0 (.int .i64 e0) Tryz.underlying3 ?_))
 by_cases vw:e0=1
 ·skip
  subst vw
  go_upto_if 25 with(first|((with_reducible refine gd 16 rfl ?_);refine lE HW 2 0 ?_)|((with_reducible refine gd 18 rfl ?_);refine lls HW 1 3 (.string e3) Tryz.underlying9 ?_)|((with_reducible refine gd 20 rfl ?_);refine lls HW 1 4 (.string e4) Tryz.underlying9 ?_)|((with_reducible refine gq 81 rfl ?_);refine gl (some 21) Tryz.func81 #[(.agg (eC _ _ _ _ _ _ _ _ _ _ _).toArray),(.string e3),(.string e4)] ?_;with_reducible refine(RP HW.out.ts.tw (HW.out.hb hb0) (N:=N) (C:=700) (HW.out.g.1.up (by omega)) (by omega) (by omega) (by omega)).mono ?_;rintro e PK h_;obtain⟨E_,aHj,aiV,M_105,rfl,gQ,hE_⟩:=h_.out;refine⟨_,rfl,?_⟩;obtain⟨ahT,ahU,ahV,ahW,ahX,ahY,ahZ,ai0,ai1,ai2,ai3,ai4,ai5,ai6,ai7,ai8,ai9,aia,aaw,rfl,hF_,aax,aay⟩:=hE_.out4;clear hE_;replace HW:=ah.mk (LW.et (HW.out.call gQ) hF_);clear gQ hF_)|((with_reducible refine gd 5 rfl ?_);refine lbx (N:=5) (t:=31) HW zE ?_;clear HW;intro g5 vZ HW)|((with_reducible refine aj (t:=31) (p:=5) rfl ?_);refine iA HW 0 ?_;clear HW;intro AU HW;(try simp only[List.set_cons_zero,List.set_cons_succ]at HW)))
  cases aiV with
  |true=>
   go_wp2_with (first|((with_reducible refine gd 26 rfl ?_);refine lE HW 0 0 ?_)|((with_reducible refine aj (t:=31) (p:=27) rfl ?_);refine mP HW 3 0 (.agg (eC _ _ _ _ _ _ _ _ _ _ _).toArray) (wC _ _ _ _ _ _ _ _ _ _ _ _ _ _ _ _ _ _ _ _ _ _ _ _) (eC _ _ _ _ _ _ _ _ _ _ _) ?_ (fP rfl);clear HW;intro Fz HW;(try simp only[List.set_cons_zero,List.set_cons_succ]at HW))|((with_reducible refine gd 54 rfl ?_);refine CU HW 3 0 ?_)|((with_reducible refine aj (t:=47) (p:=4) rfl ?_);refine iA HW 1 ?_;clear HW;intro FB HW;(try simp only[List.set_cons_zero,List.set_cons_succ]at HW)))
   refine bodyPost_ret (results_cell_row rfl _ _ g4 47 (wC _ _ _ _ _ _ _ _ _ _ _ _ _ _ _ _ _ _ _ _ _ _ _ _).toArray (0,0) _ rfl (HW.out.at 1 rfl) Tryz.underlying47 rfl (by kernel_rfl)) rfl ?_
   exact⟨_,_,rfl,HW.out.ts,⟨_,_,_,_,_,_,_,_,_,_,_,_,_,_,_,_,_,_,_,_,_,_,_,_,rfl,(HW.out.g.2.up (by omega)),(HW.out.g.1.2.up (by omega)),hsu,hsd⟩⟩
  |false=>
   go_wp2_with (first|((with_reducible refine gd 54 rfl ?_);refine CU HW 3 0 ?_)|((with_reducible refine aj (t:=47) (p:=4) rfl ?_);refine iA HW 1 ?_;clear HW;intro Cb HW;(try simp only[List.set_cons_zero,List.set_cons_succ]at HW)))
   refine bodyPost_ret (results_cell_row rfl _ _ g4 47 (wC _ _ _ _ _ _ _ _ _ _ _ _ _ _ _ _ _ _ _ _ _ _ _ _).toArray (0,0) _ rfl (HW.out.at 1 rfl) Tryz.underlying47 rfl (by kernel_rfl)) rfl ?_
   exact⟨_,_,rfl,HW.out.ts,⟨_,_,_,_,_,_,_,_,_,_,_,_,_,_,_,_,_,_,_,_,_,_,_,_,rfl,(HW.out.g.1.1.up (by omega)),(HW.out.g.1.2.up (by omega)),hsu,hsd⟩⟩
 ·skip
  have Q0:(e0==1)=false:=beq_eq_false_iff_ne.mpr vw
  have a2H:(e0 != 1)=true:=bne_iff_ne.mpr vw
  go_upto_if 28 with(fail)
  by_cases xM:e0=2
  ·skip
   subst xM
   go_wp2_with (first|((with_reducible refine gd 32 rfl ?_);refine lE HW 2 0 ?_)|((with_reducible refine gd 34 rfl ?_);refine lls HW 1 1 (.int .i64 e1) Tryz.underlying3 ?_)|((with_reducible refine gq 23 rfl ?_);refine gl (some 35) Tryz.func23 #[(.agg (eC _ _ _ _ _ _ _ _ _ _ _).toArray),(.int .i64 e1)] ?_;with_reducible refine(PZ HW.out.ts.tw (HW.out.hb hb0) (N:=N) (C:=700) (HW.out.g.1.up (by omega)) (by omega)).mono ?_;rintro e KO h_;obtain⟨E_,aHk,M_114,rfl,gQ,hE_⟩:=h_.out;refine⟨_,rfl,?_⟩;obtain⟨aHl,aHm,aHn,aHo,aHp,aHq,aHr,aHs,aHt,aHu,aHv,aHw,aHx,aHy,aHz,aHA,aHB,aHC,aAg,rfl,hF_,aAh,aAi⟩:=hE_.out4;clear hE_;replace HW:=ah.mk (LW.et (HW.out.call gQ) hF_);clear gQ hF_)|((with_reducible refine gd 8 rfl ?_);refine lbx (N:=8) (t:=31) HW zE ?_;clear HW;intro g8 yO HW)|((with_reducible refine aj (t:=31) (p:=8) rfl ?_);refine iA HW 0 ?_;clear HW;intro yL HW;(try simp only[List.set_cons_zero,List.set_cons_succ]at HW))|((with_reducible refine gd 38 rfl ?_);refine lE HW 0 0 ?_)|((with_reducible refine aj (t:=31) (p:=39) rfl ?_);refine mP HW 3 0 (.agg (eC _ _ _ _ _ _ _ _ _ _ _).toArray) (wC _ _ _ _ _ _ _ _ _ _ _ _ _ _ _ _ _ _ _ _ _ _ _ _) (eC _ _ _ _ _ _ _ _ _ _ _) ?_ (fP rfl);clear HW;intro yM HW;(try simp only[List.set_cons_zero,List.set_cons_succ]at HW))|((with_reducible refine gd 54 rfl ?_);refine CU HW 3 0 ?_)|((with_reducible refine aj (t:=47) (p:=4) rfl ?_);refine iA HW 1 ?_;clear HW;intro xI HW;(try simp only[List.set_cons_zero,List.set_cons_succ]at HW)))
   refine bodyPost_ret (results_cell_row rfl _ _ g4 47 (wC _ _ _ _ _ _ _ _ _ _ _ _ _ _ _ _ _ _ _ _ _ _ _ _).toArray (0,0) _ rfl (HW.out.at 1 rfl) Tryz.underlying47 rfl (by kernel_rfl)) rfl ?_
   exact⟨_,_,rfl,HW.out.ts,⟨_,_,_,_,_,_,_,_,_,_,_,_,_,_,_,_,_,_,_,_,_,_,_,_,rfl,(HW.out.g.2.up (by omega)),(HW.out.g.1.2.up (by omega)),hsu,hsd⟩⟩
  ·skip
   have WI:(e0==2)=false:=beq_eq_false_iff_ne.mpr xM
   have adn:(e0 != 2)=true:=bne_iff_ne.mpr xM
   go_upto_if 40 with(fail)
   by_cases xJ:e0=3
   ·skip
    subst xJ
    go_wp2_with (first|((with_reducible refine gd 42 rfl ?_);refine CU HW 2 0 ?_)|((with_reducible refine gd 44 rfl ?_);refine lls HW 1 1 (.int .i64 e1) Tryz.underlying3 ?_)|((with_reducible refine gq 82 rfl ?_);refine gl (some 45) Tryz.func82 #[(.agg (wC _ _ _ _ _ _ _ _ _ _ _ _ _ _ _ _ _ _ _ _ _ _ _ _).toArray),(.int .i64 e1)] ?_;with_reducible refine(Yj HW.out.ts.tw (HW.out.hb hb0) (N:=N) (HW.out.g.1.up (by omega)) (HW.out.g.2.up (by omega)) (by omega) (by omega) (by omega)).mono ?_;rintro e AR h_;obtain⟨E_,M_121,rfl,gQ,hE_⟩:=h_.out;refine⟨_,rfl,?_⟩;obtain⟨aiD,aiE,aiF,aiG,aiH,aiI,aiJ,aiK,aiL,aiM,aiN,aiO,aiP,aiQ,aiR,aiS,aiT,aiU,aaI,aHD,aHE,aHF,aHG,aHH,aHI,aHJ,aHK,aHL,aHM,aHN,aHO,aHP,aHQ,aHR,aHS,aHT,aHU,aAj,aHV,aHW,rfl,hF_,hG_,aAk,aAl,aaJ,aaK,aAm,aAn⟩:=hE_.out4;clear hE_;replace HW:=ah.mk (((HW.out.call gQ).et hF_).et hG_);clear gQ hF_ hG_)|((with_reducible refine aj (t:=47) (p:=4) rfl ?_);refine iA HW 0 ?_;clear HW;intro Gu HW;(try simp only[List.set_cons_zero,List.set_cons_succ]at HW)))
    refine bodyPost_ret (results_cell_row rfl _ _ g4 47 (wC _ _ _ _ _ _ _ _ _ _ _ _ _ _ _ _ _ _ _ _ _ _ _ _).toArray (0,0) _ rfl (HW.out.at 0 rfl) Tryz.underlying47 rfl (by kernel_rfl)) rfl ?_
    exact⟨_,_,rfl,HW.out.ts,⟨_,_,_,_,_,_,_,_,_,_,_,_,_,_,_,_,_,_,_,_,_,_,_,_,rfl,(HW.out.g.1.2.up (by omega)),(HW.out.g.2.up (by omega)),(by omega),(by omega)⟩⟩
   ·skip
    have a2u:(e0==3)=false:=beq_eq_false_iff_ne.mpr xJ
    have a2v:(e0 != 3)=true:=bne_iff_ne.mpr xJ
    go_upto_if 46 with(fail)
    by_cases c124:e0=4
    ·skip
     subst c124
     go_wp2_with (first|((with_reducible refine gd 48 rfl ?_);refine CU HW 2 0 ?_)|((with_reducible refine gd 50 rfl ?_);refine lls HW 1 1 (.int .i64 e1) Tryz.underlying3 ?_)|((with_reducible refine gd 52 rfl ?_);refine lls HW 1 2 (.int .i64 e2) Tryz.underlying3 ?_)|((with_reducible refine gq 83 rfl ?_);refine gl (some 53) Tryz.func83 #[(.agg (wC _ _ _ _ _ _ _ _ _ _ _ _ _ _ _ _ _ _ _ _ _ _ _ _).toArray),(.int .i64 e1),(.int .i64 e2)] ?_;with_reducible refine(SX HW.out.ts.tw (HW.out.hb hb0) (N:=N) (HW.out.g.1.up (by omega)) (HW.out.g.2.up (by omega)) (by omega) (by omega) (by omega)).mono ?_;rintro e KJ h_;obtain⟨E_,M_125,rfl,gQ,hE_⟩:=h_.out;refine⟨_,rfl,?_⟩;obtain⟨aHX,aHY,aHZ,aI0,aI1,aI2,aI3,aI4,aI5,aI6,aI7,aI8,aI9,aIa,aIb,aIc,aId,aIe,aAo,aIf,aIg,aIh,aIi,aIj,aIk,aIl,aIm,aIn,aIo,aIp,aIq,aIr,aIs,aIt,aIu,aIv,aIw,aAp,aIx,aIy,rfl,hF_,hG_,aAq,aAr,aAs,aAt,aAu,aAv⟩:=hE_.out4;clear hE_;replace HW:=ah.mk (((HW.out.call gQ).et hF_).et hG_);clear gQ hF_ hG_)|((with_reducible refine aj (t:=47) (p:=4) rfl ?_);refine iA HW 0 ?_;clear HW;intro PE HW;(try simp only[List.set_cons_zero,List.set_cons_succ]at HW)))
     refine bodyPost_ret (results_cell_row rfl _ _ g4 47 (wC _ _ _ _ _ _ _ _ _ _ _ _ _ _ _ _ _ _ _ _ _ _ _ _).toArray (0,0) _ rfl (HW.out.at 0 rfl) Tryz.underlying47 rfl (by kernel_rfl)) rfl ?_
     exact⟨_,_,rfl,HW.out.ts,⟨_,_,_,_,_,_,_,_,_,_,_,_,_,_,_,_,_,_,_,_,_,_,_,_,rfl,(HW.out.g.1.2.up (by omega)),(HW.out.g.2.up (by omega)),(by omega),(by omega)⟩⟩
    ·skip
     have a3b:(e0==4)=false:=beq_eq_false_iff_ne.mpr c124
     have aqv:(e0 != 4)=true:=bne_iff_ne.mpr c124
     go_wp2_with (first|((with_reducible refine gd 54 rfl ?_);refine CU HW 2 0 ?_)|((with_reducible refine aj (t:=47) (p:=4) rfl ?_);refine iA HW 0 ?_;clear HW;intro apc HW;(try simp only[List.set_cons_zero,List.set_cons_succ]at HW)))
     refine bodyPost_ret (results_cell_row rfl _ _ g4 47 (wC _ _ _ _ _ _ _ _ _ _ _ _ _ _ _ _ _ _ _ _ _ _ _ _).toArray (0,0) _ rfl (HW.out.at 0 rfl) Tryz.underlying47 rfl (by kernel_rfl)) rfl ?_
     exact⟨_,_,rfl,HW.out.ts,⟨_,_,_,_,_,_,_,_,_,_,_,_,_,_,_,_,_,_,_,_,_,_,_,_,rfl,(HW.out.g.1.up (by omega)),(HW.out.g.2.up (by omega)),hsu,hsd⟩⟩
end Go.Proofs.YtokblgdgpnakpaaGreat.PFnEndLess
