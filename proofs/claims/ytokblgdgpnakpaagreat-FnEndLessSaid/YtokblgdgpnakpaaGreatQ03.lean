/- FnEndLess holds: part 3 of a proof that the given program meets it (printed texts and walks of our own, made short by a program). No condition. -/
import Derived.Test.YtokblgdgpnakpaaGreatQ02
set_option linter.unusedVariables false
set_option linter.unusedSimpArgs false
set_option maxHeartbeats 8000000
set_option maxRecDepth 100000
namespace Go.Proofs.YtokblgdgpnakpaaGreat.PFnEndLess
open Go.RowKit Go.Proofs.YtokblgdgpnakpaaGreatW.PrintWords Go.Proofs.YtokblgdgpnakpaaGreatW.PrintLast Go.Proofs.YtokblgdgpnakpaaGreatW.PrintMore Go.Proofs.YtokblgdgpnakpaaGreat.Lm
attribute [local go_sem] bF bD cZ d9 aY aX bH bI
def dS.f(k:Nat)(aH:List (bg))(aA:Int)(iY:ByteArray)(iK:ByteArray)(lW:Bool):Option ((List (bg))×Int):=(some (([(⟨iY,iK,false⟩:bg)]:List (bg)):List (bg))).bind fun Gr=>(if Gr.length+aH.length<3518437208883 then((dI.f k (Gr++aH) aA).bind fun vL=>(some (vL.1,vL.2)))else(none))
theorem dS.mono:∀a0 a1 a2 a3 a4 k,gV (dS.f k a0 a1 a2 a3 a4) (dS.f (k+1) a0 a1 a2 a3 a4):=by
 intro a0 a1 a2 a3 a4 k
 unfold dS.f
 have m0:=@dI.mono
 exact zm
def dS.T2:Bool×List (List Nat×List Nat):=(true,[([],[]),([0],[0]),([],[]),([2],[2]),([1,3],[1,3]),([],[]),([5],[5]),([4,6],[4,6]),([7,4],[7]),([8,8,0,1,2,3,4,5,6,7,8],[8])])
def dS.B2:List Nat:=[0,1,0,4,15,0,32,127,255,511]
theorem dS.tab2:jm .any (opsOf Tryz.f73 2)=dS.T2:=by kernel_rfl
theorem dS.bits2:fQ dS.T2.2 dS.B2=true:=by kernel_rfl
theorem dS.calls(k:Nat)(iW:Option Addr)(iX:Nat)(aH:List (bg))(aA:Int)(iY:ByteArray)(iK:ByteArray)(lW:Bool)(r1:List (bg))(r2:Int)(w:World)(kM:Kd.C iF w iW aH.length aH)(kN:aH.length≤iX)(h:dS.f k aH aA iY iK lW=some (r1,r2)):
 Calls Tryz.prog 73 #[.agg #[.slice iW aH.length iX,.int .i64 aA],.agg #[.string iY,.string iK,.bool lW]] w fun e w'=>∃vk:Value,e= .returned (.agg #[vk,.int .i64 r2])∧Kd.R iF 89 w' w.heap.size (fun _=>True) vk r1∧Below w.heap.size w w':=by
 have zB:=Tryz.underlying25
 have rZ:=Tryz.underlying89
 have lF:=ah.mk kM
 have oZ:=ah.mk kN
 clear kM kN
 have HB:=ah.mk (Below.refl w.heap.size w)
 have H:((some (([(⟨iY,iK,false⟩:bg)]:List (bg)):List (bg))).bind fun Gr=>(if Gr.length+aH.length<3518437208883 then((dI.f k (Gr++aH) aA).bind fun vL=>(some (vL.1,vL.2)))else(none)))=some (r1,r2):=h
 clear h
 obtain⟨Gr,NG⟩:∃y_:List (bg),y_=(([(⟨iY,iK,false⟩:bg)]:List (bg))):=⟨_,rfl⟩
 replace H:(if Gr.length+aH.length<3518437208883 then((dI.f k (Gr++aH) aA).bind fun vL=>(some (vL.1,vL.2)))else(none))=some (r1,r2):=by first|(rw[NG];with_reducible exact H)|(have fF:=(Option.bind_some _ _).symm.trans H;rw[NG];with_reducible exact fF)|(have fF:=(Option.bind_some _ _).symm.trans H;with_reducible exact fF)|with_reducible exact H|(rw[NG];exact H)|exact H
 have ac2:=ah.mk NG
 clear NG
 replace H:=sp H
 rcases H with⟨c3,H⟩|⟨c3,H⟩
 ·skip
  have afg:=ah.mk c3
  clear c3
  obtain⟨afh,NH⟩:∃y_:List (bg),y_=(Gr++aH):=⟨_,rfl⟩
  replace H:((dI.f k afh aA).bind fun vL=>(some (vL.1,vL.2)))=some (r1,r2):=by first|(rw[NH];with_reducible exact H)|(have fF:=(Option.bind_some _ _).symm.trans H;rw[NH];with_reducible exact fF)|(have fF:=(Option.bind_some _ _).symm.trans H;with_reducible exact fF)|with_reducible exact H|(rw[NH];exact H)|exact H
  have am1:=ah.mk NH
  clear NH
  obtain⟨⟨am2,am3⟩,A4,H⟩:=ob H
  (try dsimp only at H)
  simp only[Option.some.injEq,Prod.mk.injEq]at H
  obtain⟨rfl,rfl⟩:=H
  go_enter Tryz.func73,Tryz.ntmps73
  try go_wp2_with (first|((with_reducible refine gd 2 rfl ?_);refine bx (N:=2) (cs:=#[.slice iW aH.length iX,.int .i64 aA]) (t:=25) ?_;intro am4 hg w5 hbox hb;have lX:=ah.mk (hbox);have am5:=gw HB hg;have aLb:=am5;replace HB:=ah.mk (ai (zb HB) hb);clear hb hbox hg)|((with_reducible refine gd 3 rfl ?_);refine bx (N:=3) (cs:=#[.string iY,.string iK,.bool lW]) (t:=89) ?_;intro EP hg w6 hbox hb;have lY:=ah.mk (hbox);have am6:=gw HB hg;have aLc:=am6;replace HB:=ah.mk (ai (zb HB) hb);obtain⟨Xv,Xw⟩:=nb lX hg;replace lX:=kb lX hb;clear hb hbox hg)|((with_reducible refine gd 4 rfl ?_);refine bx (N:=4) (cs:=#[.slice none 0 0,.int .i64 0]) (t:=25) ?_;intro rM hg w7 hbox hb;have nP:=ah.mk (hbox);have am7:=gw HB hg;have aLd:=am7;replace HB:=ah.mk (ai (zb HB) hb);obtain⟨qm,GX⟩:=nb lX hg;replace lX:=kb lX hb;obtain⟨mE,BF⟩:=nb lY hg;replace lY:=kb lY hb;clear hb hbox hg;have akw:=Xw.out;have akx:=Xv.out;have am8:=mE.out;have am9:=BF.out;obtain⟨Dy,Dz,Um,DC,DF,Un⟩:=c3 lY))
  have sV:ah ((w7.setCell ⟨EP,2,none⟩ (.bool false)).heap[am4]?=some (.cells #[.slice iW aH.length iX,.int .i64 aA] 25 (0,0))):=⟨zp lX⟩
  have sW:ah ((w7.setCell ⟨EP,2,none⟩ (.bool false)).heap[EP]?=some (.cells #[.string iY,.string iK,.bool false] 89 (0,0))):=⟨zp lY⟩
  have uS:ah ((w7.setCell ⟨EP,2,none⟩ (.bool false)).heap[rM]?=some (.cells #[.slice none 0 0,.int .i64 0] 25 (0,0))):=⟨zp nP⟩
  have uT:ah (Below w.heap.size w (w7.setCell ⟨EP,2,none⟩ (.bool false))):=⟨zb HB⟩
  (try clear lX)
  (try clear lY)
  (try clear nP)
  (try clear HB)
  generalize(w7.setCell ⟨EP,2,none⟩ (.bool false))=w11 at sV sW uS uT ⊢
  have lX:=sV
  have lY:=sW
  have nP:=uS
  have HB:=uT
  clear sV sW uS uT
  replace lX:=ah.mk (dn lX.out)
  replace lY:=ah.mk (dn lY.out)
  replace nP:=ah.mk (dn nP.out)
  replace HB:=ah.mk (dG HB.out)
  refine st 10 (an (b3 lY) (b2 lX)) (fun hHeld=>?_);refine bR dS.tab2 dS.bits2 (fun HT_ HW_=>?_)
  generalize w11.drew=Xm at lX lY nP HB hHeld ⊢
  refine pu 2 (some 8) (bm 10 4) rfl rfl ?_
  refine pu 5 (some 11) (bm 10 36) rfl rfl ?_
  refine tk 0 (some 6) (bm 10 37) rfl rfl hHeld ?_
  refine tk 3 (some 9) (bm 10 45) rfl rfl hHeld ?_
  refine tk 6 (some 12) (bm 10 109) rfl rfl hHeld ?_
  refine fV (i:=1) (N:=some 7) (bm 10 111) rfl rfl (bL HT_.out (by kernel_rfl)) (by decide) (fun K hK=>?_)
  refine Kd.R_lit_step iF _ 89 ?hg (N:=7) ?hd (xs:=([(⟨iY,iK,false⟩:bg)]:List (bg))) (inner:=[.string iY,.string iK,.bool false]) (ok:=fun _=>True) (okp:=fun _=>True) ?hr ?hp (fun _ hk=>hk) trivial (Below.refl _ _) (Nat.le_refl _) (by simp) ?_;(case hd=>rfl);(case hg=>rfl);(case hr=>first|(go_simp;done)|(go_simp;rfl));(case hp=>exact(dm.c3 (show Kd.M iF _ _ _ (⟨iY,iK,false⟩:bg) [.string iY,.string iK,.bool false]from(lD _ _ _ (⟨iY,iK,false⟩:bg))) (dm.none _ _)))
  intro aC4 w13 a0U hb nE fM
  clear nE fM
  (first|rw[←ac2.out]at a0U|(simp only[Int.reduceToNat]at a0U;rw[←ac2.out]at a0U))
  have NI:=ah.mk (Kd.R_lower (Kd.R_newB a0U (zk lY)) (aJ (zb HB)))
  replace lX:=kb lX hb
  replace lY:=kb lY hb
  replace nP:=kb nP hb
  replace HB:=ah.mk (ai (zb HB) hb)
  clear hb a0U
  refine hK.out _ _ (an (b3 lY) (b2 lX)) (fun hHeld=>?_)
  clear hK K
  refine nm ?_
  refine fV (i:=4) (N:=some 10) (bm 10 127) rfl rfl (bL HT_.out (by kernel_rfl)) (by decide) (fun K hK=>?_)
  refine Kd.R_append_rows_step iF (w0:=w) w.heap.size (by rfl) (.tmp 7) (.tmp 9) 23 89 (.agg #[(.string ⟨#[]⟩),(.string ⟨#[]⟩),(.bool false)]) 40 rfl Tryz.underlying23 yh rfl (by decide) (by omega) aC4 Gr aH _ _ _ (fun k_=>k_≠EP) (fun _=>False) rfl rfl ?aO ?aR (fun _ _ h=>h) (fun _ h=>h.elim) ?aF ?aB ?aS ?aL ?_
  (case aR=>exact zc (Kd.C_below lF.out HB.out))
  (case aB=>exact(zb HB))
  (case aF=>exact(fun k_ hk=>Kd.freshB (zk lY) k_ hk))
  (case aO=>exact(zq (Kd.R_mono NI.out (fun _ hk=>hk.2))))
  (case aS=>exact(aJ (zb HB)))
  (case aL=>have:=afg.out;omega)
  intro aPN w15 ho hb hg hat
  rw[←am1.out]at ho
  replace lX:=ah.mk (jI (zk lX) hg (Kd.R_ne NI.out lX.out (by decide)))
  replace lY:=ah.mk (jI (zk lY) hg (Kd.R_away NI.out (fun _ hk=>hk.2)))
  replace nP:=ah.mk (jI (zk nP) hg (Kd.R_ne NI.out nP.out (by decide)))
  replace HB:=ah.mk (hb)
  have GY:=ah.mk (ho)
  clear NI
  clear ho hb hg hat
  obtain⟨a8q,a8r,a0J⟩:=Kd.R_slice GY.out
  (first|subst a0J|(injection a0J with Cx Na Cy;have Nb:=Cx.symm;have Nc:=Cy.symm;clear Cx Na Cy;subst Nb;subst Nc))
  refine hK.out _ _ (an (b3 lY) (b2 lX)) (fun hHeld=>?_)
  clear hK K
  refine nm ?_
  refine pu 7 (some 13) (bm 10 255) rfl rfl ?_
  refine fV (i:=8) (N:=some 14) (bm 10 511) rfl rfl (bL HT_.out (by kernel_rfl)) (by decide) (fun K hK=>?_)
  refine gs Tryz.func84 #[.agg #[.slice a8q afh.length a8r,.int .i64 aA]] ?_
  with_reducible refine(dI.calls k _ _ afh aA am2 am3 _ ?aN ?aQ A4.out).mono ?_
  (case aN=>exact zc (Kd.R_reads' GY.out).2.2)
  (case aQ=>exact(Kd.R_reads' GY.out).2.1)
  rintro e w17 ⟨aPO,rfl,ho0,hb⟩
  refine⟨_,rfl,?_⟩
  have ac3:=ah.mk (Kd.R_lower (Kd.R_newB (Kd.R_new' ho0 (Kd.R_lt (zr GY))) (zk lY)) (aJ (zb HB)))
  replace GY:=ah.mk (Kd.R_elder' (zr GY) (Kd.R_base ho0) hb)
  replace lX:=kb lX hb
  replace lY:=kb lY hb
  replace nP:=kb nP hb
  replace HB:=ah.mk (ai (zb HB) hb)
  (try clear hb)
  (try clear ho0)
  obtain⟨D8,BG,NJ⟩:=Kd.R_slice ac3.out
  (first|subst NJ|(injection NJ with Cx Na Cy;have Nb:=Cx.symm;have Nc:=Cy.symm;clear Cx Na Cy;subst Nb;subst Nc))
  refine hK.out _ _ (an (b3 lY) (b2 lX)) (fun hHeld=>?_)
  clear hK K
  refine nm ?_
  refine fV (i:=9) (N:=none) (bm 10 1023) rfl rfl (bL HT_.out (by kernel_rfl)) (by decide) (fun K hK=>?_)
  have aPP:w17.cell? ⟨rM,0,none⟩=some (.slice none 0 0):=(au nP.out 0).trans rfl
  have aLe:=ak nP.out 0
  have aue:=qm.out
  have auf:=mE.out
  have aug:=GX.out
  have auh:=BF.out
  have aPQ:w17.cell? ⟨rM,1,none⟩=some (.int .i64 0):=(au nP.out 1).trans rfl
  have aLf:=ak nP.out 1
  have aui:=qm.out
  have auj:=mE.out
  have auk:=GX.out
  have aul:=BF.out
  refine oW (w1:=?_) (by rfl) rfl ?_ ?_
  rotate_left
  ·go_simp
   rfl
  refine hK.out _ _ (an ⟨((cell_far (p:=⟨rM,_,none⟩) mE.out _).trans (((cell_far (p:=⟨rM,_,none⟩) mE.out _).trans (hHeld.1.1)))),((cell_far (p:=⟨rM,_,none⟩) mE.out _).trans (((cell_far (p:=⟨rM,_,none⟩) mE.out _).trans (hHeld.1.2.1)))),((cell_far (p:=⟨rM,_,none⟩) mE.out _).trans (((cell_far (p:=⟨rM,_,none⟩) mE.out _).trans (hHeld.1.2.2))))⟩ ⟨((cell_far (p:=⟨rM,_,none⟩) qm.out _).trans (((cell_far (p:=⟨rM,_,none⟩) qm.out _).trans (hHeld.2.1)))),((cell_far (p:=⟨rM,_,none⟩) qm.out _).trans (((cell_far (p:=⟨rM,_,none⟩) qm.out _).trans (hHeld.2.2))))⟩) (fun hHeld=>?_)
  clear hK K
  refine fw (dM HT_.out (by kernel_rfl)) ?_
  try go_wp2
  refine bodyPost_ret (results_cell_row rfl _ _ rM 25 #[.slice D8 am2.length BG,.int .i64 am3] (0,0) _ rfl (zp nP) Tryz.underlying25 rfl (by kernel_rfl)) rfl ?_
  exact⟨_,ze,(Kd.R_mono (qb (Kd.R_types ac3.out nP.out (by decide))) (fun _ hk=>trivial)),zb HB⟩
 ·skip
  exact absurd H (by simp)
def jP.f:Option ((List (bg))):=some (([(⟨(⟨#[58,112,97,116,104]⟩:ByteArray),(⟨#[]⟩:ByteArray),false⟩:bg),(⟨(⟨#[58,115,116,97,116,117,115]⟩:ByteArray),(⟨#[48]⟩:ByteArray),false⟩:bg),(⟨(⟨#[58,115,116,97,116,117,115]⟩:ByteArray),(⟨#[49,50]⟩:ByteArray),false⟩:bg),(⟨(⟨#[107,105,110,100]⟩:ByteArray),(⟨#[116,101,120,116]⟩:ByteArray),false⟩:bg),(⟨(⟨#[115,105,122,101]⟩:ByteArray),(⟨#[]⟩:ByteArray),false⟩:bg),(⟨(⟨#[116,101]⟩:ByteArray),(⟨#[116,114,97,105,108,101,114,115]⟩:ByteArray),false⟩:bg)]:List (bg)))
theorem jP.calls(r:List (bg))(w:World)(h:jP.f=some r):
 Calls Tryz.prog 113 #[] w fun e w'=>∃vk:Value,e= .returned (vk)∧Kd.R iF 89 w' w.heap.size (fun _=>True) vk r∧Below w.heap.size w w':=by
 have rZ:=Tryz.underlying89
 have HB:=ah.mk (Below.refl w.heap.size w)
 have H:(some (([(⟨(⟨#[58,112,97,116,104]⟩:ByteArray),(⟨#[]⟩:ByteArray),false⟩:bg),(⟨(⟨#[58,115,116,97,116,117,115]⟩:ByteArray),(⟨#[48]⟩:ByteArray),false⟩:bg),(⟨(⟨#[58,115,116,97,116,117,115]⟩:ByteArray),(⟨#[49,50]⟩:ByteArray),false⟩:bg),(⟨(⟨#[107,105,110,100]⟩:ByteArray),(⟨#[116,101,120,116]⟩:ByteArray),false⟩:bg),(⟨(⟨#[115,105,122,101]⟩:ByteArray),(⟨#[]⟩:ByteArray),false⟩:bg),(⟨(⟨#[116,101]⟩:ByteArray),(⟨#[116,114,97,105,108,101,114,115]⟩:ByteArray),false⟩:bg)]:List (bg))))=some r:=h
 clear h
 obtain⟨aC5,NK⟩:∃y_:List (bg),y_=(([(⟨(⟨#[58,112,97,116,104]⟩:ByteArray),(⟨#[]⟩:ByteArray),false⟩:bg),(⟨(⟨#[58,115,116,97,116,117,115]⟩:ByteArray),(⟨#[48]⟩:ByteArray),false⟩:bg),(⟨(⟨#[58,115,116,97,116,117,115]⟩:ByteArray),(⟨#[49,50]⟩:ByteArray),false⟩:bg),(⟨(⟨#[107,105,110,100]⟩:ByteArray),(⟨#[116,101,120,116]⟩:ByteArray),false⟩:bg),(⟨(⟨#[115,105,122,101]⟩:ByteArray),(⟨#[]⟩:ByteArray),false⟩:bg),(⟨(⟨#[116,101]⟩:ByteArray),(⟨#[116,114,97,105,108,101,114,115]⟩:ByteArray),false⟩:bg)]:List (bg))):=⟨_,rfl⟩
 replace H:(some aC5)=some r:=by first|(rw[NK];with_reducible exact H)|(have fF:=(Option.bind_some _ _).symm.trans H;rw[NK];with_reducible exact fF)|(have fF:=(Option.bind_some _ _).symm.trans H;with_reducible exact fF)|with_reducible exact H|(rw[NK];exact H)|exact H
 have ac4:=ah.mk NK
 clear NK
 obtain rfl:=Option.some.inj H
 go_enter Tryz.func113,Tryz.ntmps113
 go_wp2_with (first|((with_reducible refine gd 7 rfl ?_);refine Kd.R_lit iF _ 89 ?hg (N:=7) ?hd (xs:=([(⟨(⟨#[58,112,97,116,104]⟩:ByteArray),(⟨#[]⟩:ByteArray),false⟩:bg),(⟨(⟨#[58,115,116,97,116,117,115]⟩:ByteArray),(⟨#[48]⟩:ByteArray),false⟩:bg),(⟨(⟨#[58,115,116,97,116,117,115]⟩:ByteArray),(⟨#[49,50]⟩:ByteArray),false⟩:bg),(⟨(⟨#[107,105,110,100]⟩:ByteArray),(⟨#[116,101,120,116]⟩:ByteArray),false⟩:bg),(⟨(⟨#[115,105,122,101]⟩:ByteArray),(⟨#[]⟩:ByteArray),false⟩:bg),(⟨(⟨#[116,101]⟩:ByteArray),(⟨#[116,114,97,105,108,101,114,115]⟩:ByteArray),false⟩:bg)]:List (bg))) (inner:=[.string (⟨#[58,112,97,116,104]⟩:ByteArray),.string (⟨#[]⟩:ByteArray),.bool false,.string (⟨#[58,115,116,97,116,117,115]⟩:ByteArray),.string (⟨#[48]⟩:ByteArray),.bool false,.string (⟨#[58,115,116,97,116,117,115]⟩:ByteArray),.string (⟨#[49,50]⟩:ByteArray),.bool false,.string (⟨#[107,105,110,100]⟩:ByteArray),.string (⟨#[116,101,120,116]⟩:ByteArray),.bool false,.string (⟨#[115,105,122,101]⟩:ByteArray),.string (⟨#[]⟩:ByteArray),.bool false,.string (⟨#[116,101]⟩:ByteArray),.string (⟨#[116,114,97,105,108,101,114,115]⟩:ByteArray),.bool false]) (ok:=fun _=>True) (okp:=fun _=>True) ?hr ?hp (fun _ hk=>hk) trivial (Below.refl _ _) (Nat.le_refl _) (by simp) ?_;(case hd=>rfl);(case hg=>rfl);(case hr=>first|(go_simp;done)|(go_simp;rfl));(case hp=>exact(dm.c3 (show Kd.M iF _ _ _ (⟨(⟨#[58,112,97,116,104]⟩:ByteArray),(⟨#[]⟩:ByteArray),false⟩:bg) [.string (⟨#[58,112,97,116,104]⟩:ByteArray),.string (⟨#[]⟩:ByteArray),.bool false]from(lD _ _ _ (⟨(⟨#[58,112,97,116,104]⟩:ByteArray),(⟨#[]⟩:ByteArray),false⟩:bg))) (dm.c3 (show Kd.M iF _ _ _ (⟨(⟨#[58,115,116,97,116,117,115]⟩:ByteArray),(⟨#[48]⟩:ByteArray),false⟩:bg) [.string (⟨#[58,115,116,97,116,117,115]⟩:ByteArray),.string (⟨#[48]⟩:ByteArray),.bool false]from(lD _ _ _ (⟨(⟨#[58,115,116,97,116,117,115]⟩:ByteArray),(⟨#[48]⟩:ByteArray),false⟩:bg))) (dm.c3 (show Kd.M iF _ _ _ (⟨(⟨#[58,115,116,97,116,117,115]⟩:ByteArray),(⟨#[49,50]⟩:ByteArray),false⟩:bg) [.string (⟨#[58,115,116,97,116,117,115]⟩:ByteArray),.string (⟨#[49,50]⟩:ByteArray),.bool false]from(lD _ _ _ (⟨(⟨#[58,115,116,97,116,117,115]⟩:ByteArray),(⟨#[49,50]⟩:ByteArray),false⟩:bg))) (dm.c3 (show Kd.M iF _ _ _ (⟨(⟨#[107,105,110,100]⟩:ByteArray),(⟨#[116,101,120,116]⟩:ByteArray),false⟩:bg) [.string (⟨#[107,105,110,100]⟩:ByteArray),.string (⟨#[116,101,120,116]⟩:ByteArray),.bool false]from(lD _ _ _ (⟨(⟨#[107,105,110,100]⟩:ByteArray),(⟨#[116,101,120,116]⟩:ByteArray),false⟩:bg))) (dm.c3 (show Kd.M iF _ _ _ (⟨(⟨#[115,105,122,101]⟩:ByteArray),(⟨#[]⟩:ByteArray),false⟩:bg) [.string (⟨#[115,105,122,101]⟩:ByteArray),.string (⟨#[]⟩:ByteArray),.bool false]from(lD _ _ _ (⟨(⟨#[115,105,122,101]⟩:ByteArray),(⟨#[]⟩:ByteArray),false⟩:bg))) (dm.c3 (show Kd.M iF _ _ _ (⟨(⟨#[116,101]⟩:ByteArray),(⟨#[116,114,97,105,108,101,114,115]⟩:ByteArray),false⟩:bg) [.string (⟨#[116,101]⟩:ByteArray),.string (⟨#[116,114,97,105,108,101,114,115]⟩:ByteArray),.bool false]from(lD _ _ _ (⟨(⟨#[116,101]⟩:ByteArray),(⟨#[116,114,97,105,108,101,114,115]⟩:ByteArray),false⟩:bg))) (dm.none _ _))))))));intro aPR w1 ho2 hb nE fM;clear nE fM;(first|rw[←ac4.out]at ho2|(simp only[Int.reduceToNat]at ho2;rw[←ac4.out]at ho2));have ama:=ah.mk (Kd.R_lower ho2 (aJ (zb HB)));replace HB:=ah.mk (ai (zb HB) hb);clear hb ho2))
 go_ret
 exact⟨_,ze,zq (ama.out),zb HB⟩
def ja.f(aH:List (bg))(aA:Int):Option ((List (bg))):=(jP.f).bind fun Kb=>(if Kb.length+aH.length<3518437208883 then(some (Kb++aH))else(none))
theorem ja.calls(iW:Option Addr)(iX:Nat)(aH:List (bg))(aA:Int)(r:List (bg))(w:World)(kM:Kd.C iF w iW aH.length aH)(kN:aH.length≤iX)(h:ja.f aH aA=some r):
 Calls Tryz.prog 108 #[.agg #[.slice iW aH.length iX,.int .i64 aA]] w fun e w'=>∃vk:Value,e= .returned (vk)∧Kd.R iF 89 w' w.heap.size (fun _=>True) vk r∧Below w.heap.size w w':=by
 have zB:=Tryz.underlying25
 have lF:=ah.mk kM
 have oZ:=ah.mk kN
 clear kM kN
 have HB:=ah.mk (Below.refl w.heap.size w)
 have H:((jP.f).bind fun Kb=>(if Kb.length+aH.length<3518437208883 then(some (Kb++aH))else(none)))=some r:=h
 clear h
 obtain⟨Kb,A2,H⟩:=ob H
 (try dsimp only at H)
 replace H:=sp H
 rcases H with⟨c3,H⟩|⟨c3,H⟩
 ·skip
  have afg:=ah.mk c3
  clear c3
  obtain⟨aC6,NM⟩:∃y_:List (bg),y_=(Kb++aH):=⟨_,rfl⟩
  replace H:(some aC6)=some r:=by first|(rw[NM];with_reducible exact H)|(have fF:=(Option.bind_some _ _).symm.trans H;rw[NM];with_reducible exact fF)|(have fF:=(Option.bind_some _ _).symm.trans H;with_reducible exact fF)|with_reducible exact H|(rw[NM];exact H)|exact H
  have amb:=ah.mk NM
  clear NM
  obtain rfl:=Option.some.inj H
  go_enter Tryz.func108,Tryz.ntmps108
  try go_wp2_with (first|((with_reducible refine gd 1 rfl ?_);refine bx (N:=1) (cs:=#[.slice iW aH.length iX,.int .i64 aA]) (t:=25) ?_;intro aLg hg w4 hbox hb;have vM:=ah.mk (hbox);have amc:=gw HB hg;have aLh:=amc;replace HB:=ah.mk (ai (zb HB) hb);clear hb hbox hg))
  replace vM:=ah.mk (dn vM.out)
  replace HB:=ah.mk (dG HB.out)
  refine st 5 (b2 vM) (fun hHeld=>?_)
  generalize w4.drew=w5 at vM HB hHeld ⊢
  refine pu 1 (some 4) (bm 5 2) rfl rfl ?_
  refine tk 2 (some 5) (bm 5 6) rfl rfl hHeld ?_
  refine fV (i:=0) (N:=some 3) (bm 5 7) rfl rfl (by kernel_rfl) (by decide) (fun K hK=>?_)
  refine gs Tryz.func113 #[] ?_
  with_reducible refine(jP.calls Kb _ A2.out).mono ?_
  rintro e w6 ⟨aC7,rfl,ho0,hb⟩
  refine⟨_,rfl,?_⟩
  have a0V:=ah.mk (Kd.R_lower ho0 (aJ (zb HB)))
  replace vM:=kb vM hb
  replace HB:=ah.mk (ai (zb HB) hb)
  (try clear hb)
  (try clear ho0)
  refine hK.out _ _ (b2 vM) (fun hHeld=>?_)
  clear hK K
  refine nm ?_
  refine fV (i:=3) (N:=some 6) (bm 5 15) rfl rfl (by kernel_rfl) (by decide) (fun K hK=>?_)
  refine Kd.R_append_rows_step iF (w0:=w) w.heap.size (by rfl) (.tmp 3) (.tmp 5) 23 89 (.agg #[(.string ⟨#[]⟩),(.string ⟨#[]⟩),(.bool false)]) 40 rfl Tryz.underlying23 yh rfl (by decide) (by omega) aC7 Kb aH _ _ _ (fun _=>True) (fun _=>False) rfl rfl ?aO ?aR (fun _ _ h=>h) (fun _ h=>h.elim) ?aF ?aB ?aS ?aL ?_
  (case aR=>exact zc (Kd.C_below lF.out HB.out))
  (case aB=>exact(zb HB))
  (case aF=>exact(fun _ _=>trivial))
  (case aO=>exact(zr a0V))
  (case aS=>exact(aJ (zb HB)))
  (case aL=>have:=afg.out;omega)
  intro aPS w7 ho hb hg hat
  rw[←amb.out]at ho
  replace vM:=ah.mk (jI (zk vM) hg (Kd.R_ne a0V.out vM.out (by decide)))
  replace HB:=ah.mk (hb)
  have amd:=ah.mk (ho)
  clear a0V
  clear ho hb hg hat
  refine hK.out _ _ (b2 vM) (fun hHeld=>?_)
  clear hK K
  refine nm ?_
  refine pu 4 (some 2) (bm 5 31) rfl rfl ?_
  refine fw (by kernel_rfl) ?_
  try go_wp2
  go_ret
  exact⟨_,ze,zq (amd.out),zb HB⟩
 ·skip
  exact absurd H (by simp)
mutual
def bE.l0:Nat→List (bg)→Int→Int→ByteArray→ByteArray→Bool→Option (Int×Bool)
 |0,_,_,_,_,_,_=>none
 |k+1,x6,x7,x8,rO,uD,wO=>if x8≥0 then(if 0≤x8 then(if x8<(x6.length:Int)then(if((aT x6 x8).f0).toList=rO.toList then(bE.l0 k x6 (wrap64 (x8+1)) (wrap64 (x8-1)) rO uD wO)else(bE.l0 k x6 x7 (wrap64 (x8-1)) rO uD wO))else(none))else(none))else(bE.l1 k x6 x7 0 rO uD wO)
def bE.l1:Nat→List (bg)→Int→Int→ByteArray→ByteArray→Bool→Option (Int×Bool)
 |0,_,_,_,_,_,_=>none
 |k+1,x6,x7,x9,rO,uD,wO=>if x9<(x6.length:Int)then(if 0≤x9 then(if((aT x6 x9).f0).toList=rO.toList then(if((aT x6 x9).f1).toList=uD.toList then(some (wrap64 (x9+1),true))else(bE.l1 k x6 x7 (wrap64 (x9+1)) rO uD wO))else(bE.l1 k x6 x7 (wrap64 (x9+1)) rO uD wO))else(none))else(some (x7,false))
end
def bE.f(k:Nat)(aH:List (bg))(aA:Int)(iY:ByteArray)(iK:ByteArray)(lW:Bool):Option (Int×Bool):=(ja.f aH aA).bind fun lq=>(bE.l0 k lq 0 (wrap64 ((lq.length:Int)-1)) iY iK lW)
theorem bE.mono_l:∀k,(∀y0 y1 y2 y3 y4 y5,gV (bE.l0 k y0 y1 y2 y3 y4 y5) (bE.l0 (k+1) y0 y1 y2 y3 y4 y5))∧(∀y0 y1 y2 y3 y4 y5,gV (bE.l1 k y0 y1 y2 y3 y4 y5) (bE.l1 (k+1) y0 y1 y2 y3 y4 y5))
 |0=>⟨fun _ _ _ _ _ _ r h=>by simp[bE.l0]at h,fun _ _ _ _ _ _ r h=>by simp[bE.l1]at h⟩
 |k+1=>by
  obtain⟨ng,ih1⟩:=bE.mono_l k
  refine⟨?_,?_⟩
  ·intro y0 y1 y2 y3 y4 y5
   unfold bE.l0
   exact zm
  ·intro y0 y1 y2 y3 y4 y5
   unfold bE.l1
   exact zm
theorem bE.mono:∀a0 a1 a2 a3 a4 k,gV (bE.f k a0 a1 a2 a3 a4) (bE.f (k+1) a0 a1 a2 a3 a4):=by
 intro a0 a1 a2 a3 a4 k
 obtain⟨ng,ih1⟩:=bE.mono_l k
 unfold bE.f
 exact zm
theorem bE.calls(k:Nat)(iW:Option Addr)(iX:Nat)(aH:List (bg))(aA:Int)(iY:ByteArray)(iK:ByteArray)(lW:Bool)(r1:Int)(r2:Bool)(w:World)(kM:Kd.C iF w iW aH.length aH)(kN:aH.length≤iX)(h:bE.f k aH aA iY iK lW=some (r1,r2)):
 Calls Tryz.prog 102 #[.agg #[.slice iW aH.length iX,.int .i64 aA],.agg #[.string iY,.string iK,.bool lW]] w fun e w'=>e= .returned (.tuple #[.int .i64 r1,.bool r2])∧Below w.heap.size w w':=by
 have zB:=Tryz.underlying25
 have rZ:=Tryz.underlying89
 have lF:=ah.mk kM
 have oZ:=ah.mk kN
 clear kM kN
 have HB:=ah.mk (Below.refl w.heap.size w)
 have H:((ja.f aH aA).bind fun lq=>(bE.l0 k lq 0 (wrap64 ((lq.length:Int)-1)) iY iK lW))=some (r1,r2):=h
 clear h
 obtain⟨lq,A3,H⟩:=ob H
 (try dsimp only at H)
 have H':=ah.mk H
 clear H
 go_enter Tryz.func102,Tryz.ntmps102
 go_wp2_with (first|((with_reducible refine gd 2 rfl ?_);refine bx (N:=2) (cs:=#[.slice iW aH.length iX,.int .i64 aA]) (t:=25) ?_;intro Vn hg w4 hbox hb;have jX:=ah.mk (hbox);have NN:=gw HB hg;have ac5:=NN;replace HB:=ah.mk (ai (zb HB) hb);clear hb hbox hg)|((with_reducible refine gd 3 rfl ?_);refine bx (N:=3) (cs:=#[.string iY,.string iK,.bool lW]) (t:=89) ?_;intro GZ hg w5 hbox hb;have lZ:=ah.mk (hbox);have NP:=gw HB hg;have ac6:=NP;replace HB:=ah.mk (ai (zb HB) hb);obtain⟨mF,mG⟩:=nb jX hg;replace jX:=kb jX hb;clear hb hbox hg;have ame:=mF.out;have amf:=mG.out;obtain⟨yB,yC,yD,yE⟩:=c2 jX)|(go_at_call 108;(with_reducible refine(ja.calls _ _ aH aA lq _ ?aN ?aQ A3.out).mono ?_);(case aN=>exact zc (Kd.C_below lF.out HB.out));(case aQ=>exact oZ.out);rintro e w8 ⟨amg,rfl,ho0,hb⟩;have H7:=ah.mk (Kd.R_lower (Kd.R_newB ho0 (zk lZ)) (aJ (zb HB)));replace jX:=kb jX hb;replace lZ:=kb lZ hb;replace HB:=ah.mk (ai (zb HB) hb);(try clear hb);(try clear ho0);obtain⟨Ao9,co9,eo9⟩:=Kd.R_slice H7.out;subst eo9))
 repeat(go_quiet (first|((with_reducible refine gd 2 rfl ?_);refine bx (N:=2) (cs:=#[.slice iW aH.length iX,.int .i64 aA]) (t:=25) ?_;intro Vn hg w4 hbox hb;have jX:=ah.mk (hbox);have NN:=gw HB hg;have ac5:=NN;replace HB:=ah.mk (ai (zb HB) hb);clear hb hbox hg)|((with_reducible refine gd 3 rfl ?_);refine bx (N:=3) (cs:=#[.string iY,.string iK,.bool lW]) (t:=89) ?_;intro GZ hg w5 hbox hb;have lZ:=ah.mk (hbox);have NP:=gw HB hg;have ac6:=NP;replace HB:=ah.mk (ai (zb HB) hb);obtain⟨mF,mG⟩:=nb jX hg;replace jX:=kb jX hb;clear hb hbox hg;have ame:=mF.out;have amf:=mG.out;obtain⟨yB,yC,yD,yE⟩:=c2 jX)|(go_at_call 108;(with_reducible refine(ja.calls _ _ aH aA lq _ ?aN ?aQ A3.out).mono ?_);(case aN=>exact zc (Kd.C_below lF.out HB.out));(case aQ=>exact oZ.out);rintro e w8 ⟨amg,rfl,ho0,hb⟩;have H7:=ah.mk (Kd.R_lower (Kd.R_newB ho0 (zk lZ)) (aJ (zb HB)));replace jX:=kb jX hb;replace lZ:=kb lZ hb;replace HB:=ah.mk (ai (zb HB) hb);(try clear hb);(try clear ho0);obtain⟨Ao9,co9,eo9⟩:=Kd.R_slice H7.out;subst eo9));try go_wp2_with (first|((with_reducible refine gd 2 rfl ?_);refine bx (N:=2) (cs:=#[.slice iW aH.length iX,.int .i64 aA]) (t:=25) ?_;intro Vn hg w4 hbox hb;have jX:=ah.mk (hbox);have NN:=gw HB hg;have ac5:=NN;replace HB:=ah.mk (ai (zb HB) hb);clear hb hbox hg)|((with_reducible refine gd 3 rfl ?_);refine bx (N:=3) (cs:=#[.string iY,.string iK,.bool lW]) (t:=89) ?_;intro GZ hg w5 hbox hb;have lZ:=ah.mk (hbox);have NP:=gw HB hg;have ac6:=NP;replace HB:=ah.mk (ai (zb HB) hb);obtain⟨mF,mG⟩:=nb jX hg;replace jX:=kb jX hb;clear hb hbox hg;have ame:=mF.out;have amf:=mG.out;obtain⟨yB,yC,yD,yE⟩:=c2 jX)|(go_at_call 108;(with_reducible refine(ja.calls _ _ aH aA lq _ ?aN ?aQ A3.out).mono ?_);(case aN=>exact zc (Kd.C_below lF.out HB.out));(case aQ=>exact oZ.out);rintro e w8 ⟨amg,rfl,ho0,hb⟩;have H7:=ah.mk (Kd.R_lower (Kd.R_newB ho0 (zk lZ)) (aJ (zb HB)));replace jX:=kb jX hb;replace lZ:=kb lZ hb;replace HB:=ah.mk (ai (zb HB) hb);(try clear hb);(try clear ho0);obtain⟨Ao9,co9,eo9⟩:=Kd.R_slice H7.out;subst eo9)))
 go_loopg [7,8] k (fun kq v7 v8 w'=>∃(fD:Int)(mg:Int),v7= .int .i64 fD∧v8= .int .i64 mg∧ah (bE.l0 kq lq fD mg iY iK lW=some (r1,r2))∧ah (kq≤k)∧ah (Kd.R iF 89 w' w.heap.size (fun k_=>k_≠GZ) (.slice Ao9 lq.length co9) lq)∧ah (w'.heap[Vn]?=some (.cells #[(.slice iW aH.length iX),.int .i64 aA] 25 (0,0)))∧ah (w'.heap[GZ]?=some (.cells #[.string iY,.string iK,.bool lW] 89 (0,0)))∧ah (Below w.heap.size w w'))
 case atStart=>exact⟨(0),(wrap64 ((lq.length:Int)-1)),zs,zs,H',⟨Nat.le_refl _⟩,⟨zq (Kd.R_mono H7.out (fun _ hk=>hk.2))⟩,⟨by exact zk jX⟩,⟨by exact zk lZ⟩,⟨zb HB⟩⟩
 case round=>
  clear H'
  try clear c1
  try clear p2
  try clear c6
  try clear p6
  try clear yB
  try clear yC
  try clear yD
  try clear yE
  obtain⟨fD,mg,rfl,rfl,HA,jc,HO_6,jX,lZ,HB⟩:=hrel
  cases gk with
  |zero=>exact absurd HA.out (by simp[bE.l0])
  |succ k1=>
   have H:=HA.out
   clear HA
   simp only[bE.l0]at H
   replace H:=sp H
   rcases H with⟨c10,H⟩|⟨c10,H⟩
   ·skip
    have c10b0:=decide_eq_true c10
    clear c10
    by_cases c11:0≤mg
    ·rw[if_pos c11]at H
     have c11b0:=decide_eq_true c11
     clear c11
     by_cases c12:mg<(lq.length:Int)
     ·rw[if_pos c12]at H
      have c12b0:=decide_eq_true c12
      clear c12
      by_cases c13:((aT lq mg).f0).toList=iY.toList
      ·rw[if_pos c13]at H
       have c13b0:(((aT lq mg).f0).toList==iY.toList)=true:=beq_iff_eq.mpr c13
       have c13b1:(((aT lq mg).f0).toList != iY.toList)=false:=bne_eq_false_iff_eq.mpr c13
       clear c13
       have H':=ah.mk H
       clear H
       have NQ:0≤(mg:Int):=of_decide_eq_true za
       have NR:mg<(lq.length:Int):=of_decide_eq_true za
       obtain⟨amh,afi,Vo,Vp,Vq⟩:=eP (Kd.R_reads' HO_6.out).2.2 mg NQ NR
       cases afi
       replace NQ:=eq_true NQ
       replace NR:=eq_true NR
       have ami:=mG.out
       have amj:=mF.out
       obtain⟨zn,zo,zu,zw,zx,zy⟩:=c3 lZ
       go_wp2
       repeat(go_quiet (fail);try go_wp2)
       go_roundg k1
       case measure=>have:=jc.out;omega
       case rel=>exact⟨(wrap64 (mg+1)),(wrap64 (mg-1)),zs,zs,H',⟨by have:=jc.out;omega⟩,⟨by exact zr HO_6⟩,⟨by exact zk jX⟩,⟨by exact zk lZ⟩,⟨zb HB⟩⟩
      ·rw[if_neg c13]at H
       have c13b0:(((aT lq mg).f0).toList==iY.toList)=false:=beq_eq_false_iff_ne.mpr c13
       have c13b1:(((aT lq mg).f0).toList != iY.toList)=true:=bne_iff_ne.mpr c13
       have H':=ah.mk H
       clear H
       have NQ:0≤(mg:Int):=of_decide_eq_true za
       have NR:mg<(lq.length:Int):=of_decide_eq_true za
       obtain⟨amh,afi,Vo,Vp,Vq⟩:=eP (Kd.R_reads' HO_6.out).2.2 mg NQ NR
       cases afi
       replace NQ:=eq_true NQ
       replace NR:=eq_true NR
       have a0W:=mG.out
       have a0X:=mF.out
       obtain⟨wG,wH,JE,wI,wJ,JF⟩:=c3 lZ
       go_wp2
       repeat(go_quiet (fail);try go_wp2)
       go_roundg k1
       case measure=>have:=jc.out;omega
       case rel=>exact⟨(fD),(wrap64 (mg-1)),zs,zs,H',⟨by have:=jc.out;omega⟩,⟨by exact zr HO_6⟩,⟨by exact zk jX⟩,⟨by exact zk lZ⟩,⟨zb HB⟩⟩
     ·rw[if_neg c12]at H
      exact absurd H (by simp)
    ·rw[if_neg c11]at H
     exact absurd H (by simp)
   ·skip
    have c10b0:=decide_eq_false c10
    clear c10
    have H':=ah.mk H
    clear H
    go_wp2
    repeat(go_quiet (fail);try go_wp2)
    go_loopg [9] k1 (fun kq v9 w'=>∃(pO:Int),v9= .int .i64 pO∧ah (bE.l1 kq lq fD pO iY iK lW=some (r1,r2))∧ah (kq≤k1)∧ah (Kd.R iF 89 w' w.heap.size (fun k_=>k_≠GZ) (.slice Ao9 lq.length co9) lq)∧ah (w'.heap[Vn]?=some (.cells #[(.slice iW aH.length iX),.int .i64 aA] 25 (0,0)))∧ah (w'.heap[GZ]?=some (.cells #[.string iY,.string iK,.bool lW] 89 (0,0)))∧ah (Below w.heap.size w w'))
    case atStart=>exact⟨(0),zs,H',⟨Nat.le_refl _⟩,⟨by exact zr HO_6⟩,⟨by exact zk jX⟩,⟨by exact zk lZ⟩,⟨zb HB⟩⟩
    case round=>
     clear H'
     try clear c1
     try clear p2
     try clear p4
     try clear q4
     try clear hx4
     try clear c6
     try clear p6
     try clear c10
     try clear c10b0
     try clear c11
     try clear c11b0
     try clear c12
     try clear c12b0
     try clear c13
     try clear c13b0
     try clear c13b1
     try clear c14
     try clear c16
     try clear zn
     try clear zo
     try clear zu
     try clear wG
     try clear wH
     try clear JE
     try clear yB
     try clear yC
     try clear zw
     try clear zx
     try clear zy
     try clear wI
     try clear wJ
     try clear JF
     try clear yD
     try clear yE
     try clear Vo
     try clear Vp
     try clear Vq
     try clear p2
     try clear NQ
     try clear p6
     try clear NR
     obtain⟨pO,rfl,HA,M5,HO_6,jX,lZ,HB⟩:=hrel
     cases gk with
     |zero=>exact absurd HA.out (by simp[bE.l1])
     |succ k2=>
      have H:=HA.out
      clear HA
      simp only[bE.l1]at H
      replace H:=sp H
      rcases H with⟨c18,H⟩|⟨c18,H⟩
      ·skip
       have c18b0:=decide_eq_true c18
       clear c18
       by_cases c19:0≤pO
       ·rw[if_pos c19]at H
        have c19b0:=decide_eq_true c19
        clear c19
        by_cases c20:((aT lq pO).f0).toList=iY.toList
        ·rw[if_pos c20]at H
         have c20b0:(((aT lq pO).f0).toList==iY.toList)=true:=beq_iff_eq.mpr c20
         have c20b1:(((aT lq pO).f0).toList != iY.toList)=false:=bne_eq_false_iff_eq.mpr c20
         clear c20
         have amk:=ah.mk H
         clear H
         have QS:0≤(pO:Int):=of_decide_eq_true za
         have QT:pO<(lq.length:Int):=of_decide_eq_true za
         obtain⟨ac7,afj,a8A,a8B,a8C⟩:=eP (Kd.R_reads' HO_6.out).2.2 pO QS QT
         cases afj
         replace QS:=eq_true QS
         replace QT:=eq_true QT
         have abF:=mG.out
         have abG:=mF.out
         obtain⟨JN,JO,UB,JP,JQ,UC⟩:=c3 lZ
         have afk:0≤(pO:Int):=of_decide_eq_true za
         have afl:pO<(lq.length:Int):=of_decide_eq_true za
         obtain⟨aml,aC8,aum,aun,auo⟩:=eP (Kd.R_reads' HO_6.out).2.2 pO afk afl
         obtain rfl:ac7=aml:=(by injection aC8)
         replace afk:=eq_true afk
         replace afl:=eq_true afl
         go_upto_if 52 with(fail)
         repeat(go_quiet (fail);go_upto_if 52 with(fail))
         have H:=amk.out
         clear amk
         by_cases c24:((aT lq pO).f1).toList=iK.toList
         ·rw[if_pos c24]at H
          have c24b0:(((aT lq pO).f1).toList==iK.toList)=true:=beq_iff_eq.mpr c24
          have c24b1:(((aT lq pO).f1).toList != iK.toList)=false:=bne_eq_false_iff_eq.mpr c24
          clear c24
          (first|rw[c24b0]|rw[c24b1]|rw[c24b2]|(simp only[iC,iQ];rw[c24b0])|skip)
          simp only[Option.some.injEq,Prod.mk.injEq]at H
          obtain⟨rfl,rfl⟩:=H
          go_wp2
          repeat(go_quiet (fail);try go_wp2)
          go_ret2
          exact⟨ze,zb HB⟩
         ·rw[if_neg c24]at H
          have c24b0:(((aT lq pO).f1).toList==iK.toList)=false:=beq_eq_false_iff_ne.mpr c24
          have c24b1:(((aT lq pO).f1).toList != iK.toList)=true:=bne_iff_ne.mpr c24
          (first|rw[c24b0]|rw[c24b1]|rw[c24b2]|(simp only[iC,iQ];rw[c24b0])|skip)
          have H':=ah.mk H
          clear H
          go_wp2
          repeat(go_quiet (fail);try go_wp2)
          go_roundg k2
          case measure=>have:=jc.out;have:=M5.out;omega
          case rel=>exact⟨(wrap64 (pO+1)),zs,H',⟨by have:=jc.out;have:=M5.out;omega⟩,⟨by exact zr HO_6⟩,⟨by exact zk jX⟩,⟨by exact zk lZ⟩,⟨zb HB⟩⟩
        ·rw[if_neg c20]at H
         have c20b0:(((aT lq pO).f0).toList==iY.toList)=false:=beq_eq_false_iff_ne.mpr c20
         have c20b1:(((aT lq pO).f0).toList != iY.toList)=true:=bne_iff_ne.mpr c20
         have H':=ah.mk H
         clear H
         have QS:0≤(pO:Int):=of_decide_eq_true za
         have QT:pO<(lq.length:Int):=of_decide_eq_true za
         obtain⟨ac7,afj,a8A,a8B,a8C⟩:=eP (Kd.R_reads' HO_6.out).2.2 pO QS QT
         cases afj
         replace QS:=eq_true QS
         replace QT:=eq_true QT
         have ac8:=mG.out
         have ac9:=mF.out
         obtain⟨JJ,JK,a6W,JL,JM,a6X⟩:=c3 lZ
         go_wp2
         repeat(go_quiet (fail);try go_wp2)
         go_roundg k2
         case measure=>have:=jc.out;have:=M5.out;omega
         case rel=>exact⟨(wrap64 (pO+1)),zs,H',⟨by have:=jc.out;have:=M5.out;omega⟩,⟨by exact zr HO_6⟩,⟨by exact zk jX⟩,⟨by exact zk lZ⟩,⟨zb HB⟩⟩
       ·rw[if_neg c19]at H
        exact absurd H (by simp)
      ·skip
       have c18b0:=decide_eq_false c18
       clear c18
       simp only[Option.some.injEq,Prod.mk.injEq]at H
       obtain⟨rfl,rfl⟩:=H
       go_wp2
       repeat(go_quiet (fail);try go_wp2)
       go_ret2
       exact⟨ze,zb HB⟩
def bX.l0:Nat→Int→Int→Int→Option (Int)
 |0,_,_,_=>none
 |k+1,x0,x3,x4=>if x4<x0 then(bX.l0 k x0 (wrap64 (2*x3)) (wrap64 (x4+1)))else(some x3)
def bX.f(k:Nat)(a0:Int):Option (Int):=bX.l0 k a0 1 0
theorem bX.mono_l:∀k,(∀y0 y1 y2,gV (bX.l0 k y0 y1 y2) (bX.l0 (k+1) y0 y1 y2))
 |0=>fun _ _ _ r h=>by simp[bX.l0]at h
 |k+1=>by
  have ng:=bX.mono_l k
  ·intro y0 y1 y2
   unfold bX.l0
   exact zm
theorem bX.mono:∀a0 k,gV (bX.f k a0) (bX.f (k+1) a0):=by
 intro a0 k
 have ng:=bX.mono_l k
 unfold bX.f
 exact zm
theorem bX.calls(k:Nat)(a0:Int)(r:Int)(w:World)(h:bX.f k a0=some r):
 Calls Tryz.prog 110 #[.int .i64 a0] w fun e w'=>e= .returned (.int .i64 r)∧aZ w w':=by
 have H:(bX.l0 k a0 1 0)=some r:=h
 clear h
 have H':=ah.mk H
 clear H
 go_enter Tryz.func110,Tryz.ntmps110
 go_wp2
 go_loopg [3,4] k (fun kq v3 v4 w'=>∃(cO:Int)(eu:Int),v3= .int .i64 cO∧v4= .int .i64 eu∧ah (bX.l0 kq a0 cO eu=some r)∧ah (kq≤k)∧aZ w w')
 case atStart=>exact⟨(1),(0),zs,zs,H',⟨Nat.le_refl _⟩,by repeat(first|exact aZ.refl _|apply aZ.step)⟩
 case round=>
  clear H'
  try clear c1
  obtain⟨cO,eu,rfl,rfl,HA,jc,⟨m1,rfl⟩⟩:=hrel
  cases gk with
  |zero=>exact absurd HA.out (by simp[bX.l0])
  |succ k1=>
   have H:=HA.out
   clear HA
   simp only[bX.l0]at H
   replace H:=sp H
   rcases H with⟨c2,H⟩|⟨c2,H⟩
   ·skip
    have c2b0:=decide_eq_true c2
    clear c2
    have H':=ah.mk H
    clear H
    go_wp2
    go_roundg k1
    case measure=>have:=jc.out;omega
    case rel=>exact⟨(wrap64 (2*cO)),(wrap64 (eu+1)),zs,zs,H',⟨by have:=jc.out;omega⟩,by repeat(first|exact aZ.refl _|apply aZ.step)⟩
   ·skip
    have c2b0:=decide_eq_false c2
    clear c2
    obtain rfl:=Option.some.inj H
    go_wp2
    go_ret
    exact⟨zs,by repeat(first|exact aZ.refl _|apply aZ.step)⟩
def aU.l0:Nat→Int→ByteArray→Option (ByteArray)
 |0,_,_=>none
 |k+1,x0,x8=>if x0≥128 then((bP.f (wrap64 ((Int.tmod x0 128)+128))).bind fun QU=>(if x8.size+QU.size≤9223372036854775807 then(aU.l0 k (wrap64 (Int.tdiv x0 128)) (x8++QU))else(none)))else((bP.f x0).bind fun a0Y=>(if x8.size+a0Y.size≤9223372036854775807 then(some (x8++a0Y))else(none)))
def aU.f(k:Nat)(a0:Int)(a1:Int)(a2:Int):Option (ByteArray):=(bX.f k a1).bind fun sw=>(if a0<(wrap64 (sw-1))then((bP.f (wrap64 ((wrap64 (a2*(wrap64 ((wrap64 (sw-1))+1))))+a0))).bind fun a0Z=>(some a0Z))else((bP.f (wrap64 ((wrap64 (a2*(wrap64 ((wrap64 (sw-1))+1))))+(wrap64 (sw-1))))).bind fun Xx=>(aU.l0 k (wrap64 (a0-(wrap64 (sw-1)))) Xx)))
theorem aU.mono_l:∀k,(∀y0 y1,gV (aU.l0 k y0 y1) (aU.l0 (k+1) y0 y1))
 |0=>fun _ _ r h=>by simp[aU.l0]at h
 |k+1=>by
  have ng:=aU.mono_l k
  ·intro y0 y1
   unfold aU.l0
   have m0:=@bX.mono
   exact zm
theorem aU.mono:∀a0 a1 a2 k,gV (aU.f k a0 a1 a2) (aU.f (k+1) a0 a1 a2):=by
 intro a0 a1 a2 k
 have ng:=aU.mono_l k
 unfold aU.f
 have m0:=@bX.mono
 exact zm
theorem aU.calls(k:Nat)(a0:Int)(a1:Int)(a2:Int)(r:ByteArray)(w:World)(h:aU.f k a0 a1 a2=some r):
 Calls Tryz.prog 105 #[.int .i64 a0,.int .i64 a1,.int .i64 a2] w fun e w'=>e= .returned (.string r)∧Below w.heap.size w w':=by
 have HB:=ah.mk (Below.refl w.heap.size w)
 have H:((bX.f k a1).bind fun sw=>(if a0<(wrap64 (sw-1))then((bP.f (wrap64 ((wrap64 (a2*(wrap64 ((wrap64 (sw-1))+1))))+a0))).bind fun a0Z=>(some a0Z))else((bP.f (wrap64 ((wrap64 (a2*(wrap64 ((wrap64 (sw-1))+1))))+(wrap64 (sw-1))))).bind fun Xx=>(aU.l0 k (wrap64 (a0-(wrap64 (sw-1)))) Xx))))=some r:=h
 clear h
 obtain⟨sw,A4,H⟩:=ob H
 (try dsimp only at H)
 replace H:=sp H
 rcases H with⟨c5,H⟩|⟨c5,H⟩
 ·skip
  have c5b0:=decide_eq_true c5
  clear c5
  obtain⟨a0Z,A6,H⟩:=ob H
  (try dsimp only at H)
  obtain rfl:=Option.some.inj H
  go_enter Tryz.func105,Tryz.ntmps105
  go_wp2_with (first|((with_reducible refine gq 110 rfl ?_);refine gl (some 10) Tryz.func110 #[.int .i64 a1] ?_;(with_reducible refine(bX.calls k a1 sw _ A4.out).mono ?_);rintro e w' ⟨rfl,⟨nd,rfl⟩⟩;refine⟨_,rfl,?_⟩)|((with_reducible refine gq 59 rfl ?_);refine gl (some 21) Tryz.func59 #[.int .i64 (wrap64 ((wrap64 (a2*(wrap64 ((wrap64 (sw-1))+1))))+a0))] ?_;(with_reducible refine(bP.calls (wrap64 ((wrap64 (a2*(wrap64 ((wrap64 (sw-1))+1))))+a0)) a0Z _ A6.out).mono ?_);rintro e w7 ⟨rfl,hb⟩;refine⟨_,rfl,?_⟩;replace HB:=ah.mk (ai (zb HB) hb);(try clear hb)))
  go_ret
  exact⟨ze,zb HB⟩
 ·skip
  have c5b0:=decide_eq_false c5
  clear c5
  obtain⟨Xx,A8,H⟩:=ob H
  (try dsimp only at H)
  have H':=ah.mk H
  clear H
  go_enter Tryz.func105,Tryz.ntmps105
  go_wp2_with (first|((with_reducible refine gq 110 rfl ?_);refine gl (some 10) Tryz.func110 #[.int .i64 a1] ?_;(with_reducible refine(bX.calls k a1 sw _ A4.out).mono ?_);rintro e w' ⟨rfl,⟨nd,rfl⟩⟩;refine⟨_,rfl,?_⟩)|((with_reducible refine gq 59 rfl ?_);refine gl (some 28) Tryz.func59 #[.int .i64 (wrap64 ((wrap64 (a2*(wrap64 ((wrap64 (sw-1))+1))))+(wrap64 (sw-1))))] ?_;(with_reducible refine(bP.calls (wrap64 ((wrap64 (a2*(wrap64 ((wrap64 (sw-1))+1))))+(wrap64 (sw-1)))) Xx _ A8.out).mono ?_);rintro e w9 ⟨rfl,hb⟩;refine⟨_,rfl,?_⟩;replace HB:=ah.mk (ai (zb HB) hb);(try clear hb)))
  go_loopg [0,8] k (fun kq v0 v8 w'=>∃(lK:Int)(mg:ByteArray),v0= .int .i64 lK∧v8= .string mg∧ah (aU.l0 kq lK mg=some r)∧ah (kq≤k)∧ah (Below w.heap.size w w'))
  case atStart=>exact⟨(wrap64 (a0-(wrap64 (sw-1)))),(Xx),zs,zs,H',⟨Nat.le_refl _⟩,⟨zb HB⟩⟩
  case round=>
   clear H'
   try clear c1
   try clear p2
   try clear c5
   try clear c5b0
   try clear p6
   obtain⟨lK,mg,rfl,rfl,HA,jc,HB⟩:=hrel
   cases gk with
   |zero=>exact absurd HA.out (by simp[aU.l0])
   |succ k1=>
    have H:=HA.out
    clear HA
    simp only[aU.l0]at H
    replace H:=sp H
    rcases H with⟨c10,H⟩|⟨c10,H⟩
    ·skip
     have c10b0:=decide_eq_true c10
     clear c10
     obtain⟨QU,A11,H⟩:=ob H
     (try dsimp only at H)
     by_cases c12:mg.size+QU.size≤9223372036854775807
     ·rw[if_pos c12]at H
      have c12b0:=eq_true c12
      have c12b1:=decide_eq_true c12
      try have c12b2:(9223372036854775807<mg.size+QU.size)=False:=eq_false (Nat.not_lt.2 c12)
      have H':=ah.mk H
      clear H
      go_wp2_with (first|((with_reducible refine gq 59 rfl ?_);refine gl (some 38) Tryz.func59 #[.int .i64 (wrap64 ((Int.tmod lK 128)+128))] ?_;(with_reducible refine(bP.calls (wrap64 ((Int.tmod lK 128)+128)) QU _ A11.out).mono ?_);rintro e w13 ⟨rfl,hb⟩;refine⟨_,rfl,?_⟩;replace HB:=ah.mk (ai (zb HB) hb);(try clear hb)))
      go_roundg k1
      case measure=>have:=jc.out;omega
      case rel=>exact⟨(wrap64 (Int.tdiv lK 128)),(mg++QU),zs,zs,H',⟨by have:=jc.out;omega⟩,⟨zb HB⟩⟩
     ·rw[if_neg c12]at H
      exact absurd H (by simp)
    ·skip
     have c10b0:=decide_eq_false c10
     clear c10
     obtain⟨a0Y,A14,H⟩:=ob H
     (try dsimp only at H)
     replace H:=sp H
     rcases H with⟨c15,H⟩|⟨c15,H⟩
     ·skip
      have c15b0:=eq_true c15
      have c15b1:=decide_eq_true c15
      try have c15b2:(9223372036854775807<mg.size+a0Y.size)=False:=eq_false (Nat.not_lt.2 c15)
      obtain rfl:=Option.some.inj H
      go_wp2_with (first|((with_reducible refine gq 59 rfl ?_);refine gl (some 44) Tryz.func59 #[.int .i64 lK] ?_;(with_reducible refine(bP.calls lK a0Y _ A14.out).mono ?_);rintro e w16 ⟨rfl,hb⟩;refine⟨_,rfl,?_⟩;replace HB:=ah.mk (ai (zb HB) hb);(try clear hb)))
      go_ret
      exact⟨ze,zb HB⟩
     ·skip
      exact absurd H (by simp)
def bB.l0:Nat→Int→List Int→Int→Option (List Int)
 |0,_,_,_=>none
 |k+1,x0,x5,x6=>if x6≥0 then(if 0≤x6 then(if x6<(x5.length:Int)then(bB.l0 k (wrap64 (Int.tdiv x0 2)) (x5.set (x6:Int).toNat (Int.tmod x0 2)) (wrap64 (x6-1)))else(none))else(none))else(some x5)
def bB.f(k:Nat)(a0:Int)(a1:Int):Option (List Int):=if 0≤a1 then(if(a1:Int).toNat≤35184372088832 then(bB.l0 k a0 (List.replicate (a1:Int).toNat 0) (wrap64 (a1-1)))else(none))else(none)
theorem bB.mono_l:∀k,(∀y0 y1 y2,gV (bB.l0 k y0 y1 y2) (bB.l0 (k+1) y0 y1 y2))
 |0=>fun _ _ _ r h=>by simp[bB.l0]at h
 |k+1=>by
  have ng:=bB.mono_l k
  ·intro y0 y1 y2
   unfold bB.l0
   exact zm
theorem bB.mono:∀a0 a1 k,gV (bB.f k a0 a1) (bB.f (k+1) a0 a1):=by
 intro a0 a1 k
 have ng:=bB.mono_l k
 unfold bB.f
 exact zm
theorem bB.calls(k:Nat)(a0:Int)(a1:Int)(r:List Int)(w:World)(h:bB.f k a0 a1=some r):
 Calls Tryz.prog 114 #[.int .i64 a0,.int .i64 a1] w fun e w'=>∃vk:Value,e= .returned (vk)∧Kd.R (Kd.int .i64) 3 w' w.heap.size (fun _=>True) vk r∧Below w.heap.size w w':=by
 have HB:=ah.mk (Below.refl w.heap.size w)
 have H:(if 0≤a1 then(if(a1:Int).toNat≤35184372088832 then(bB.l0 k a0 (List.replicate (a1:Int).toNat 0) (wrap64 (a1-1)))else(none))else(none))=some r:=h
 clear h
 replace H:=sp H
 rcases H with⟨c3,H⟩|⟨c3,H⟩
 ·skip
  have c3b0:=eq_true c3
  have c3b1:=decide_eq_true c3
  clear c3
  by_cases c4:(a1:Int).toNat≤35184372088832
  ·rw[if_pos c4]at H
   have c4b0:=eq_true c4
   have c4b1:=decide_eq_true c4
   clear c4
   obtain⟨amm,NS⟩:∃y_:List Int,y_=(List.replicate (a1:Int).toNat 0):=⟨_,rfl⟩
   replace H:(bB.l0 k a0 amm (wrap64 (a1-1)))=some r:=by first|(rw[NS];with_reducible exact H)|(have fF:=(Option.bind_some _ _).symm.trans H;rw[NS];with_reducible exact fF)|(have fF:=(Option.bind_some _ _).symm.trans H;with_reducible exact fF)|with_reducible exact H|(rw[NS];exact H)|exact H
   have acd:=ah.mk NS
   clear NS
   have H':=ah.mk H
   clear H
   go_enter Tryz.func114,Tryz.ntmps114
   go_wp2_with (first|((with_reducible refine gd 8 rfl ?_);refine Kd.R_make (Kd.int .i64) _ 3 rfl (N:=8) rfl 91 _ _ rfl a1 rfl rfl Tryz.underlying91 (.int .i64 0) 8 info3 rfl (by decide) (by omega) 0 (ok:=fun _=>True) (okp:=fun _=>True) rfl (fun _ hk=>hk) trivial (of_decide_eq_true za) (Nat.le_trans (Nat.mul_le_mul_right _ (of_decide_eq_true za:a1.toNat≤35184372088832)) (by omega)) (Below.refl _ _) (Nat.le_refl _) ?_;intro aC9 w5 M4 hb nE fM;clear nE fM;(first|rw[←acd.out]at M4|(simp only[Int.reduceToNat]at M4;rw[←acd.out]at M4));have amn:=ah.mk (Kd.R_lower M4 (aJ (zb HB)));replace HB:=ah.mk (ai (zb HB) hb);clear hb M4))
   go_loopg [0,6] k (fun kq v0 v6 w'=>∃(lK:Int)(jE:List Int)(iP:Int),v0= .int .i64 lK∧v6= .int .i64 iP∧ah (bB.l0 kq lK jE iP=some r)∧ah (kq≤k)∧ah (Kd.R (Kd.int .i64) 3 w' w.heap.size (fun _=>True) aC9 jE)∧ah (Below w.heap.size w w'))
   case atStart=>exact⟨(a0),(amm),(wrap64 (a1-1)),zs,zs,H',⟨Nat.le_refl _⟩,⟨by exact zr amn⟩,⟨zb HB⟩⟩
   case round=>
    clear H'
    try clear c1
    try clear p2
    try clear c3
    try clear c3b0
    try clear c3b1
    try clear c4
    try clear c4b0
    try clear c4b1
    try clear p6
    obtain⟨lK,jE,iP,rfl,rfl,HA,jc,HO_5,HB⟩:=hrel
    cases gk with
    |zero=>exact absurd HA.out (by simp[bB.l0])
    |succ k1=>
     have H:=HA.out
     clear HA
     simp only[bB.l0]at H
     by_cases c7:iP≥0
     ·rw[if_pos c7]at H
      have c7b0:=decide_eq_true c7
      clear c7
      by_cases c8:0≤iP
      ·rw[if_pos c8]at H
       have c8b0:=decide_eq_true c8
       clear c8
       by_cases c9:iP<(jE.length:Int)
       ·rw[if_pos c9]at H
        have c9b0:=decide_eq_true c9
        clear c9
        obtain⟨afm,NT⟩:∃y_:List Int,y_=(jE.set (iP:Int).toNat (Int.tmod lK 2)):=⟨_,rfl⟩
        replace H:(bB.l0 k1 (wrap64 (Int.tdiv lK 2)) afm (wrap64 (iP-1)))=some r:=by first|(rw[NT];with_reducible exact H)|(have fF:=(Option.bind_some _ _).symm.trans H;rw[NT];with_reducible exact fF)|(have fF:=(Option.bind_some _ _).symm.trans H;with_reducible exact fF)|with_reducible exact H|(rw[NT];exact H)|exact H
        have amo:=ah.mk NT
        clear NT
        have H':=ah.mk H
        clear H
        have p10:0≤(iP:Int):=of_decide_eq_true za
        have q10:(iP:Int)<((jE.length:Int):Int):=of_decide_eq_true za
        obtain⟨afn,yG,Xu,amq,aCc,aPT,amr⟩:=Kd.R_form HO_5.out (by omega)
        (first|cases Xu|(injection Xu with ea_ en_ ec_;(first|subst ea_|(injection ea_ with ea_;subst ea_));subst ec_;clear en_))
        have aCd:=ah.mk amq
        have aPW:=ah.mk amr
        clear amq aCc amr
        obtain⟨aCe,aCf⟩:=Kd.R_celln 0 HO_5.out (iP:Int) p10 q10
        replace p10:=eq_true p10
        replace q10:=eq_true q10
        have afo:=Kd.R_putg HO_5.out (iP:Int) (Int.tmod lK 2)
        go_wp2_with (first|((with_reducible refine aj (t:=3) (p:=19) rfl ?_);refine Ma (t:=3) (p:=19) (v:=?vo_w12) (w1:=(wr.setCell ⟨afn,(iP:Int).toNat,none⟩ (.int .i64 (Int.tmod lK 2)))) ?hg ?ho ?hn ?hr ?_;(case ho=>rfl);(case hg=>rfl);(case hn=>rfl);(case hr=>first|(go_simp;done)|(go_simp;rfl));intro Xm hw;have hg:wr.grownBy Xm (some afn):=(by rw[hw];exact afo.2);have hp_:Kd.R (Kd.int .i64) 3 Xm w.heap.size (fun _=>True) (.slice (some ⟨afn,0,none⟩) jE.length yG) afm:=(by rw[hw,amo.out];exact afo.1);clear afo;replace HO_5:=ah.mk (hp_);replace HB:=ah.mk ((by rw[hw];exact o8 (HB.out) aCd.out:Below w.heap.size w Xm));clear hg hw hp_))
        go_roundg k1
        case measure=>have:=jc.out;omega
        case rel=>exact⟨(wrap64 (Int.tdiv lK 2)),(afm),(wrap64 (iP-1)),zs,zs,H',⟨by have:=jc.out;omega⟩,⟨by exact zr HO_5⟩,⟨zb HB⟩⟩
       ·rw[if_neg c9]at H
        exact absurd H (by simp)
      ·rw[if_neg c8]at H
       exact absurd H (by simp)
     ·rw[if_neg c7]at H
      have c7b0:=decide_eq_false c7
      clear c7
      obtain rfl:=Option.some.inj H
      go_wp2
      go_ret
      exact⟨_,ze,zq (HO_5.out),zb HB⟩
  ·rw[if_neg c4]at H
   exact absurd H (by simp)
 ·skip
  exact absurd H (by simp)
def bS.l0:Nat→List Int→Int→Int→Option (Int)
 |0,_,_,_=>none
 |k+1,x0,x3,x4=>if x4<(x0.length:Int)then(if 0≤x4 then(bS.l0 k x0 (wrap64 ((wrap64 (2*x3))+(rd x0 x4))) (wrap64 (x4+1)))else(none))else(some x3)
def bS.f(k:Nat)(l0:List Int):Option (Int):=bS.l0 k l0 0 0
theorem bS.mono_l:∀k,(∀y0 y1 y2,gV (bS.l0 k y0 y1 y2) (bS.l0 (k+1) y0 y1 y2))
 |0=>fun _ _ _ r h=>by simp[bS.l0]at h
 |k+1=>by
  have ng:=bS.mono_l k
  ·intro y0 y1 y2
   unfold bS.l0
   exact zm
theorem bS.mono:∀a0 k,gV (bS.f k a0) (bS.f (k+1) a0):=by
 intro a0 k
 have ng:=bS.mono_l k
 unfold bS.f
 exact zm
theorem bS.calls(k:Nat)(A0:Option Addr)(c0:Nat)(l0:List Int)(r:Int)(w:World)(hr0:Kd.C (Kd.int .i64) w A0 l0.length l0)(hc0:l0.length≤c0)(h:bS.f k l0=some r):
 Calls Tryz.prog 115 #[.slice A0 l0.length c0] w fun e w'=>e= .returned (.int .i64 r)∧aZ w w':=by
 have Gd:=ah.mk hr0
 have HC0:=ah.mk hc0
 clear hr0 hc0
 have H:(bS.l0 k l0 0 0)=some r:=h
 clear h
 have H':=ah.mk H
 clear H
 go_enter Tryz.func115,Tryz.ntmps115
 go_wp2
 go_loopg [3,4] k (fun kq v3 v4 w'=>∃(cO:Int)(eu:Int),v3= .int .i64 cO∧v4= .int .i64 eu∧ah (bS.l0 kq l0 cO eu=some r)∧ah (kq≤k)∧aZ w w')
 case atStart=>exact⟨(0),(0),zs,zs,H',⟨Nat.le_refl _⟩,by repeat(first|exact aZ.refl _|apply aZ.step)⟩
 case round=>
  clear H'
  try clear c1
  obtain⟨cO,eu,rfl,rfl,HA,jc,⟨m1,rfl⟩⟩:=hrel
  cases gk with
  |zero=>exact absurd HA.out (by simp[bS.l0])
  |succ k1=>
   have H:=HA.out
   clear HA
   simp only[bS.l0]at H
   replace H:=sp H
   rcases H with⟨c2,H⟩|⟨c2,H⟩
   ·skip
    have c2b0:=decide_eq_true c2
    clear c2
    by_cases c3:0≤eu
    ·rw[if_pos c3]at H
     have c3b0:=decide_eq_true c3
     clear c3
     have H':=ah.mk H
     clear H
     have afq:0≤(eu:Int):=of_decide_eq_true za
     have afr:eu<(l0.length:Int):=of_decide_eq_true za
     obtain⟨aLi,aCg,aup⟩:=Kd.at_int Gd.out eu afq afr
     cases aCg
     replace afq:=eq_true afq
     replace afr:=eq_true afr
     go_wp2
     go_roundg k1
     case measure=>have:=jc.out;omega
     case rel=>exact⟨(wrap64 ((wrap64 (2*cO))+(rd l0 eu))),(wrap64 (eu+1)),zs,zs,H',⟨by have:=jc.out;omega⟩,by repeat(first|exact aZ.refl _|apply aZ.step)⟩
    ·rw[if_neg c3]at H
     exact absurd H (by simp)
   ·skip
    have c2b0:=decide_eq_false c2
    clear c2
    obtain rfl:=Option.some.inj H
    go_wp2
    go_ret
    exact⟨zs,by repeat(first|exact aZ.refl _|apply aZ.step)⟩
mutual
def aI.l0:Nat→ByteArray→Int→Int→Int→Option (Int×Int×Bool)
 |0,_,_,_,_=>none
 |k+1,x0,x8,x9,x10=>if x10<(x0.size:Int)then(aI.j1 k x0 x8 x9 x10 (decide (x10≤3)))else(aI.j1 k x0 x8 x9 x10 false)
def aI.j1:Nat→ByteArray→Int→Int→Int→Bool→Option (Int×Int×Bool)
 |0,_,_,_,_,_=>none
 |k+1,x0,x8,x9,x10,x33=>if x33=true then(if 0≤x10 then(if x10<(x0.size:Int)then(if(bt x0 x10)<128 then(if(bt x0 x10)=0 then(if x10>1 then(some (0,0,false))else(if(wrap64 (x8+(wrap64 (x9*(Int.tmod (wrap64 (bt x0 x10)) 128)))))>9999 then(some (0,0,false))else(some (wrap64 (x8+(wrap64 (x9*(Int.tmod (wrap64 (bt x0 x10)) 128)))),wrap64 (x10+1),true))))else(if(wrap64 (x8+(wrap64 (x9*(Int.tmod (wrap64 (bt x0 x10)) 128)))))>9999 then(some (0,0,false))else(some (wrap64 (x8+(wrap64 (x9*(Int.tmod (wrap64 (bt x0 x10)) 128)))),wrap64 (x10+1),true))))else(aI.l0 k x0 (wrap64 (x8+(wrap64 (x9*(Int.tmod (wrap64 (bt x0 x10)) 128))))) (wrap64 (128*x9)) (wrap64 (x10+1))))else(none))else(none))else(some (0,0,false))
end
def aI.f(k:Nat)(a0:ByteArray)(a1:Int):Option (Int×Int×Bool):=if a0.toList=([]:List UInt8)then(some (0,0,false))else((bX.f k a1).bind fun sZ=>(if 0<(a0.size:Int)then(if(wrap64 ((wrap64 (sZ-1))+1))=0 then(none)else(if(Int.tmod (wrap64 (bt a0 0)) (wrap64 ((wrap64 (sZ-1))+1)))<(wrap64 (sZ-1))then(some (Int.tmod (wrap64 (bt a0 0)) (wrap64 ((wrap64 (sZ-1))+1)),1,true))else(aI.l0 k a0 (Int.tmod (wrap64 (bt a0 0)) (wrap64 ((wrap64 (sZ-1))+1))) 1 1)))else(none)))
theorem aI.mono_l:∀k,(∀y0 y1 y2 y3,gV (aI.l0 k y0 y1 y2 y3) (aI.l0 (k+1) y0 y1 y2 y3))∧(∀y0 y1 y2 y3 y4,gV (aI.j1 k y0 y1 y2 y3 y4) (aI.j1 (k+1) y0 y1 y2 y3 y4))
 |0=>⟨fun _ _ _ _ r h=>by simp[aI.l0]at h,fun _ _ _ _ _ r h=>by simp[aI.j1]at h⟩
 |k+1=>by
  obtain⟨ng,ih1⟩:=aI.mono_l k
  refine⟨?_,?_⟩
  ·intro y0 y1 y2 y3
   unfold aI.l0
   have m0:=@bX.mono
   exact zm
  ·intro y0 y1 y2 y3 y4
   unfold aI.j1
   have m0:=@bX.mono
   exact zm
theorem aI.mono:∀a0 a1 k,gV (aI.f k a0 a1) (aI.f (k+1) a0 a1):=by
 intro a0 a1 k
 obtain⟨ng,ih1⟩:=aI.mono_l k
 unfold aI.f
 have m0:=@bX.mono
 exact zm
theorem aI.calls(k:Nat)(a0:ByteArray)(a1:Int)(r1:Int)(r2:Int)(r3:Bool)(w:World)(h:aI.f k a0 a1=some (r1,r2,r3)):
 Calls Tryz.prog 116 #[.string a0,.int .i64 a1] w fun e w'=>e= .returned (.tuple #[.int .i64 r1,.int .i64 r2,.bool r3])∧aZ w w':=by
 have H:(if a0.toList=([]:List UInt8)then(some (0,0,false))else((bX.f k a1).bind fun sZ=>(if 0<(a0.size:Int)then(if(wrap64 ((wrap64 (sZ-1))+1))=0 then(none)else(if(Int.tmod (wrap64 (bt a0 0)) (wrap64 ((wrap64 (sZ-1))+1)))<(wrap64 (sZ-1))then(some (Int.tmod (wrap64 (bt a0 0)) (wrap64 ((wrap64 (sZ-1))+1)),1,true))else(aI.l0 k a0 (Int.tmod (wrap64 (bt a0 0)) (wrap64 ((wrap64 (sZ-1))+1))) 1 1)))else(none))))=some (r1,r2,r3):=h
 clear h
 replace H:=sp H
 rcases H with⟨c3,H⟩|⟨c3,H⟩
 ·skip
  have c3b0:(a0.toList==([]:List UInt8))=true:=beq_iff_eq.mpr c3
  have c3b1:(a0.toList != ([]:List UInt8))=false:=bne_eq_false_iff_eq.mpr c3
  clear c3
  simp only[Option.some.injEq,Prod.mk.injEq]at H
  obtain⟨rfl,rfl,rfl⟩:=H
  go_enter Tryz.func116,Tryz.ntmps116
  go_wp2
  go_ret3
  exact⟨zs,by repeat(first|exact aZ.refl _|apply aZ.step)⟩
 ·skip
  have c3b0:(a0.toList==([]:List UInt8))=false:=beq_eq_false_iff_ne.mpr c3
  have c3b1:(a0.toList != ([]:List UInt8))=true:=bne_iff_ne.mpr c3
  obtain⟨sZ,A4,H⟩:=ob H
  (try dsimp only at H)
  replace H:=sp H
  rcases H with⟨c5,H⟩|⟨c5,H⟩
  ·skip
   have c5b0:=decide_eq_true c5
   have c5b1:=decide_eq_true (by omega)
   clear c5
   by_cases c7:(wrap64 ((wrap64 (sZ-1))+1))=0
   ·rw[if_pos c7]at H
    exact absurd H (by simp)
   ·rw[if_neg c7]at H
    have c7b0:((wrap64 ((wrap64 (sZ-1))+1))==0)=false:=beq_eq_false_iff_ne.mpr c7
    have c7b1:((wrap64 ((wrap64 (sZ-1))+1)) != 0)=true:=bne_iff_ne.mpr c7
    by_cases c8:(Int.tmod (wrap64 (bt a0 0)) (wrap64 ((wrap64 (sZ-1))+1)))<(wrap64 (sZ-1))
    ·rw[if_pos c8]at H
     have c8b0:=decide_eq_true c8
     clear c8
     simp only[Option.some.injEq,Prod.mk.injEq]at H
     obtain⟨rfl,rfl,rfl⟩:=H
     go_enter Tryz.func116,Tryz.ntmps116
     go_wp2_with (first|((with_reducible refine gq 110 rfl ?_);refine gl (some 14) Tryz.func110 #[.int .i64 a1] ?_;(with_reducible refine(bX.calls k a1 sZ _ A4.out).mono ?_);rintro e w' ⟨rfl,⟨nd,rfl⟩⟩;refine⟨_,rfl,?_⟩;have p6:0≤(0:Int):=(by omega);have q6:0<a0.size:=(by have:(0:Int)<(a0.size:Int):=of_decide_eq_true za;omega);have hx6:∀h:0<a0.size,((a0[0]'h).toNat:Int)=bt a0 0:=gB a0 0;clear p6;have qi6:(0<(a0.size:Int))=True:=eq_true (of_decide_eq_true za);replace q6:=eq_true q6))
     go_ret3
     exact⟨zs,by repeat(first|exact aZ.refl _|apply aZ.step)⟩
    ·rw[if_neg c8]at H
     have c8b0:=decide_eq_false c8
     clear c8
     have H':=ah.mk H
     clear H
     go_enter Tryz.func116,Tryz.ntmps116
     go_wp2_with (first|((with_reducible refine gq 110 rfl ?_);refine gl (some 14) Tryz.func110 #[.int .i64 a1] ?_;(with_reducible refine(bX.calls k a1 sZ _ A4.out).mono ?_);rintro e w' ⟨rfl,⟨nd,rfl⟩⟩;refine⟨_,rfl,?_⟩;have p6:0≤(0:Int):=(by omega);have q6:0<a0.size:=(by have:(0:Int)<(a0.size:Int):=of_decide_eq_true za;omega);have hx6:∀h:0<a0.size,((a0[0]'h).toNat:Int)=bt a0 0:=gB a0 0;clear p6;have qi6:(0<(a0.size:Int))=True:=eq_true (of_decide_eq_true za);replace q6:=eq_true q6))
     go_loopg [8,9,10] k (fun kq v8 v9 v10 w'=>∃(mg:Int)(sU:Int)(eO:Int),v8= .int .i64 mg∧v9= .int .i64 sU∧v10= .int .i64 eO∧ah (aI.l0 kq a0 mg sU eO=some (r1,r2,r3))∧ah (kq≤k)∧aZ w w')
     case atStart=>exact⟨(Int.tmod (wrap64 (bt a0 0)) (wrap64 ((wrap64 (sZ-1))+1))),(1),(1),zs,zs,zs,H',⟨Nat.le_refl _⟩,by repeat(first|exact aZ.refl _|apply aZ.step)⟩
     case round=>
      clear H'
      try clear c1
      try clear p2
      try clear c3
      try clear c3b0
      try clear c3b1
      try clear c5
      try clear c5b0
      try clear c5b1
      try clear p6
      try clear q6
      try clear hx6
      try clear qi6
      try clear c7
      try clear c7b0
      try clear c7b1
      try clear c8
      try clear c8b0
      try clear p6
      try clear q6
      obtain⟨mg,sU,eO,rfl,rfl,rfl,HA,jc,⟨m1,rfl⟩⟩:=hrel
      cases gk with
      |zero=>exact absurd HA.out (by simp[aI.l0])
      |succ k1=>
       have H:=HA.out
       clear HA
       simp only[aI.l0]at H
       have HC9:=ah.mk H
       clear H
       go_upto_region 9 with(fail)
       go_cut [33] (fun v33 wc=>∃(kq:Nat)(Vr:Bool),v33= .bool Vr∧ah (aI.j1 kq a0 mg sU eO Vr=some (r1,r2,r3))∧ah (kq≤k1)∧aZ w wc)
       case first=>
        have H:=HC9.out
        clear HC9
        by_cases c10:eO<(a0.size:Int)
        ·rw[if_pos c10]at H
         have c10b0:=decide_eq_true c10
         clear c10
         (first|rw[c10b0]|rw[c10b1]|rw[c10b2]|(simp only[iC,iQ];rw[c10b0])|skip)
         have H':=ah.mk H
         clear H
         go_wp2
         go_meet
         case rel=>exact⟨_,(decide (eO≤3)),zs,H',⟨by have:=jc.out;first|omega|exact Nat.le_refl _⟩,by repeat(first|exact aZ.refl _|apply aZ.step)⟩
        ·rw[if_neg c10]at H
         have c10b0:=decide_eq_false c10
         clear c10
         (first|rw[c10b0]|rw[c10b1]|rw[c10b2]|(simp only[iC,iQ];rw[c10b0])|skip)
         have H':=ah.mk H
         clear H
         go_wp2
         go_meet
         case rel=>exact⟨_,(false),zs,H',⟨by have:=jc.out;first|omega|exact Nat.le_refl _⟩,by repeat(first|exact aZ.refl _|apply aZ.step)⟩
       case rest=>
        clear HC9
        try clear c1
        try clear p2
        try clear c3
        try clear c3b0
        try clear c3b1
        try clear c5
        try clear c5b0
        try clear c5b1
        try clear p6
        try clear q6
        try clear hx6
        try clear qi6
        try clear c7
        try clear c7b0
        try clear c7b1
        try clear c8
        try clear c8b0
        try clear c10
        try clear c10b0
        try clear c10b1
        try clear c10b2
        try clear p2
        try clear p6
        try clear q6
        obtain⟨kq,Vr,rfl,HA,HJ8,⟨mc8,rfl⟩⟩:=hcut
        cases kq with
        |zero=>exact absurd HA.out (by simp[aI.j1])
        |succ kj8=>
         have H:=HA.out
         clear HA
         simp only[aI.j1]at H
         by_cases c11:Vr=true
         ·subst c11
          rw[if_pos rfl]at H
          by_cases c12:0≤eO
          ·rw[if_pos c12]at H
           have c12b0:=decide_eq_true c12
           clear c12
           by_cases c13:eO<(a0.size:Int)
           ·rw[if_pos c13]at H
            have c13b0:=decide_eq_true c13
            clear c13
            by_cases c16:(bt a0 eO)<128
            ·rw[if_pos c16]at H
             have c16b0:=decide_eq_true c16
             clear c16
             by_cases c18:(bt a0 eO)=0
             ·rw[if_pos c18]at H
              have c18b0:((bt a0 eO)==0)=true:=beq_iff_eq.mpr c18
              have c18b1:((bt a0 eO) != 0)=false:=bne_eq_false_iff_eq.mpr c18
              clear c18
              by_cases c19:eO>1
              ·rw[if_pos c19]at H
               have c19b0:=decide_eq_true c19
               clear c19
               simp only[Option.some.injEq,Prod.mk.injEq]at H
               obtain⟨rfl,rfl,rfl⟩:=H
               have NU:0≤(eO:Int):=of_decide_eq_true za
               have NV:eO<(a0.size:Int):=of_decide_eq_true za
               have a13:=gB a0 eO
               replace NU:=eq_true NU
               replace NV:=eq_true NV
               have NW:0≤(eO:Int):=of_decide_eq_true za
               have NY:eO<(a0.size:Int):=of_decide_eq_true za
               have a14:=gB a0 eO
               replace NW:=eq_true NW
               replace NY:=eq_true NY
               have Qd:0≤(eO:Int):=of_decide_eq_true za
               have NZ:eO<(a0.size:Int):=of_decide_eq_true za
               have a15:=gB a0 eO
               replace Qd:=eq_true Qd
               replace NZ:=eq_true NZ
               go_wp2
               go_ret3
               exact⟨zs,by repeat(first|exact aZ.refl _|apply aZ.step)⟩
              ·rw[if_neg c19]at H
               have c19b0:=decide_eq_false c19
               clear c19
               by_cases c20:(wrap64 (mg+(wrap64 (sU*(Int.tmod (wrap64 (bt a0 eO)) 128)))))>9999
               ·rw[if_pos c20]at H
                have c20b0:=decide_eq_true c20
                clear c20
                simp only[Option.some.injEq,Prod.mk.injEq]at H
                obtain⟨rfl,rfl,rfl⟩:=H
                have NU:0≤(eO:Int):=of_decide_eq_true za
                have NV:eO<(a0.size:Int):=of_decide_eq_true za
                have a13:=gB a0 eO
                replace NU:=eq_true NU
                replace NV:=eq_true NV
                have NW:0≤(eO:Int):=of_decide_eq_true za
                have NY:eO<(a0.size:Int):=of_decide_eq_true za
                have a14:=gB a0 eO
                replace NW:=eq_true NW
                replace NY:=eq_true NY
                have Qd:0≤(eO:Int):=of_decide_eq_true za
                have NZ:eO<(a0.size:Int):=of_decide_eq_true za
                have a15:=gB a0 eO
                replace Qd:=eq_true Qd
                replace NZ:=eq_true NZ
                go_wp2
                go_ret3
                exact⟨zs,by repeat(first|exact aZ.refl _|apply aZ.step)⟩
               ·rw[if_neg c20]at H
                have c20b0:=decide_eq_false c20
                clear c20
                simp only[Option.some.injEq,Prod.mk.injEq]at H
                obtain⟨rfl,rfl,rfl⟩:=H
                have NU:0≤(eO:Int):=of_decide_eq_true za
                have NV:eO<(a0.size:Int):=of_decide_eq_true za
                have a13:=gB a0 eO
                replace NU:=eq_true NU
                replace NV:=eq_true NV
                have NW:0≤(eO:Int):=of_decide_eq_true za
                have NY:eO<(a0.size:Int):=of_decide_eq_true za
                have a14:=gB a0 eO
                replace NW:=eq_true NW
                replace NY:=eq_true NY
                have Qd:0≤(eO:Int):=of_decide_eq_true za
                have NZ:eO<(a0.size:Int):=of_decide_eq_true za
                have a15:=gB a0 eO
                replace Qd:=eq_true Qd
                replace NZ:=eq_true NZ
                go_wp2
                go_ret3
                exact⟨zs,by repeat(first|exact aZ.refl _|apply aZ.step)⟩
             ·rw[if_neg c18]at H
              have c18b0:((bt a0 eO)==0)=false:=beq_eq_false_iff_ne.mpr c18
              have c18b1:((bt a0 eO) != 0)=true:=bne_iff_ne.mpr c18
              by_cases c21:(wrap64 (mg+(wrap64 (sU*(Int.tmod (wrap64 (bt a0 eO)) 128)))))>9999
              ·rw[if_pos c21]at H
               have c21b0:=decide_eq_true c21
               clear c21
               simp only[Option.some.injEq,Prod.mk.injEq]at H
               obtain⟨rfl,rfl,rfl⟩:=H
               have NU:0≤(eO:Int):=of_decide_eq_true za
               have NV:eO<(a0.size:Int):=of_decide_eq_true za
               have a13:=gB a0 eO
               replace NU:=eq_true NU
               replace NV:=eq_true NV
               have NW:0≤(eO:Int):=of_decide_eq_true za
               have NY:eO<(a0.size:Int):=of_decide_eq_true za
               have a14:=gB a0 eO
               replace NW:=eq_true NW
               replace NY:=eq_true NY
               have Qd:0≤(eO:Int):=of_decide_eq_true za
               have NZ:eO<(a0.size:Int):=of_decide_eq_true za
               have a15:=gB a0 eO
               replace Qd:=eq_true Qd
               replace NZ:=eq_true NZ
               go_wp2
               go_ret3
               exact⟨zs,by repeat(first|exact aZ.refl _|apply aZ.step)⟩
              ·rw[if_neg c21]at H
               have c21b0:=decide_eq_false c21
               clear c21
               simp only[Option.some.injEq,Prod.mk.injEq]at H
               obtain⟨rfl,rfl,rfl⟩:=H
               have NU:0≤(eO:Int):=of_decide_eq_true za
               have NV:eO<(a0.size:Int):=of_decide_eq_true za
               have a13:=gB a0 eO
               replace NU:=eq_true NU
               replace NV:=eq_true NV
               have NW:0≤(eO:Int):=of_decide_eq_true za
               have NY:eO<(a0.size:Int):=of_decide_eq_true za
               have a14:=gB a0 eO
               replace NW:=eq_true NW
               replace NY:=eq_true NY
               have Qd:0≤(eO:Int):=of_decide_eq_true za
               have NZ:eO<(a0.size:Int):=of_decide_eq_true za
               have a15:=gB a0 eO
               replace Qd:=eq_true Qd
               replace NZ:=eq_true NZ
               go_wp2
               go_ret3
               exact⟨zs,by repeat(first|exact aZ.refl _|apply aZ.step)⟩
            ·rw[if_neg c16]at H
             have c16b0:=decide_eq_false c16
             clear c16
             have H':=ah.mk H
             clear H
             have NU:0≤(eO:Int):=of_decide_eq_true za
             have NV:eO<(a0.size:Int):=of_decide_eq_true za
             have a13:=gB a0 eO
             replace NU:=eq_true NU
             replace NV:=eq_true NV
             have NW:0≤(eO:Int):=of_decide_eq_true za
             have NY:eO<(a0.size:Int):=of_decide_eq_true za
             have a14:=gB a0 eO
             replace NW:=eq_true NW
             replace NY:=eq_true NY
             go_wp2
             go_roundg kj8
             case measure=>have:=jc.out;have:=HJ8.out;omega
             case rel=>exact⟨(wrap64 (mg+(wrap64 (sU*(Int.tmod (wrap64 (bt a0 eO)) 128))))),(wrap64 (128*sU)),(wrap64 (eO+1)),zs,zs,zs,H',⟨by have:=jc.out;have:=HJ8.out;omega⟩,by repeat(first|exact aZ.refl _|apply aZ.step)⟩
           ·rw[if_neg c13]at H
            exact absurd H (by simp)
          ·rw[if_neg c12]at H
           exact absurd H (by simp)
         ·replace c11:=Bool.eq_false_iff.mpr c11
          subst c11
          rw[if_neg (show ¬(false=true) by decide)]at H
          simp only[Option.some.injEq,Prod.mk.injEq]at H
          obtain⟨rfl,rfl,rfl⟩:=H
          go_wp2
          go_ret3
          exact⟨zs,by repeat(first|exact aZ.refl _|apply aZ.step)⟩
  ·skip
   exact absurd H (by simp)
def kF.f(aH:List (bg))(aA:Int)(a1:Int):Option (ByteArray×ByteArray×Bool×Bool):=(ja.f aH aA).bind fun qg=>((cK.f a1 1 (qg.length:Int)).bind fun Xy=>(if Xy=true then(if 0≤(wrap64 (a1-1))then(if(wrap64 (a1-1))<(qg.length:Int)then(some ((aT qg (wrap64 (a1-1))).f0,(aT qg (wrap64 (a1-1))).f1,(aT qg (wrap64 (a1-1))).f2,true))else(none))else(none))else(some ((⟨#[]⟩:ByteArray),(⟨#[]⟩:ByteArray),false,false))))
theorem kF.calls(iW:Option Addr)(iX:Nat)(aH:List (bg))(aA:Int)(a1:Int)(r1:ByteArray)(r2:ByteArray)(r3:Bool)(r4:Bool)(w:World)(kM:Kd.C iF w iW aH.length aH)(kN:aH.length≤iX)(h:kF.f aH aA a1=some (r1,r2,r3,r4)):
 Calls Tryz.prog 117 #[.agg #[.slice iW aH.length iX,.int .i64 aA],.int .i64 a1] w fun e w'=>e= .returned (.tuple #[.agg #[.string r1,.string r2,.bool r3],.bool r4])∧Below w.heap.size w w':=by
 have zB:=Tryz.underlying25
 have rZ:=Tryz.underlying89
 have lF:=ah.mk kM
 have oZ:=ah.mk kN
 clear kM kN
 have HB:=ah.mk (Below.refl w.heap.size w)
 have H:((ja.f aH aA).bind fun qg=>((cK.f a1 1 (qg.length:Int)).bind fun Xy=>(if Xy=true then(if 0≤(wrap64 (a1-1))then(if(wrap64 (a1-1))<(qg.length:Int)then(some ((aT qg (wrap64 (a1-1))).f0,(aT qg (wrap64 (a1-1))).f1,(aT qg (wrap64 (a1-1))).f2,true))else(none))else(none))else(some ((⟨#[]⟩:ByteArray),(⟨#[]⟩:ByteArray),false,false)))))=some (r1,r2,r3,r4):=h
 clear h
 obtain⟨qg,A3,H⟩:=ob H
 (try dsimp only at H)
 obtain⟨Xy,A4,H⟩:=ob H
 (try dsimp only at H)
 have YT:=ah.mk H
 clear H
 go_enter Tryz.func117,Tryz.ntmps117
 go_upto_if 13 with(first|((with_reducible refine gd 2 rfl ?_);refine bx (N:=2) (cs:=#[.slice iW aH.length iX,.int .i64 aA]) (t:=25) ?_;intro aLk hg w6 hbox hb;have H8:=ah.mk (hbox);have amt:=gw HB hg;have aLl:=amt;replace HB:=ah.mk (ai (zb HB) hb);clear hb hbox hg)|((with_reducible refine gd 4 rfl ?_);refine bx (N:=4) (cs:=#[.string (⟨#[]⟩:ByteArray),.string (⟨#[]⟩:ByteArray),.bool false]) (t:=89) ?_;intro ace hg w7 hbox hb;have EQ:=ah.mk (hbox);have amu:=gw HB hg;have aLm:=amu;replace HB:=ah.mk (ai (zb HB) hb);obtain⟨BH,BI⟩:=nb H8 hg;replace H8:=kb H8 hb;clear hb hbox hg;have akw:=BH.out;have akx:=BI.out;obtain⟨yj,yo,yt,yu⟩:=c2 H8)|((with_reducible refine gq 108 rfl ?_);refine gl (some 8) Tryz.func108 #[.agg #[.slice iW aH.length iX,.int .i64 aA]] ?_;(with_reducible refine(ja.calls _ _ aH aA qg _ ?aN ?aQ A3.out).mono ?_);(case aN=>exact zc (Kd.C_below lF.out HB.out));(case aQ=>exact oZ.out);rintro e w10 ⟨aPZ,rfl,ho0,hb⟩;refine⟨_,rfl,?_⟩;have acf:=ah.mk (Kd.R_lower (Kd.R_newB ho0 (zk EQ)) (aJ (zb HB)));replace H8:=kb H8 hb;replace EQ:=kb EQ hb;replace HB:=ah.mk (ai (zb HB) hb);(try clear hb);(try clear ho0);obtain⟨a8D,a8E,a18⟩:=Kd.R_slice acf.out;subst a18)|((with_reducible refine gq 44 rfl ?_);refine gl (some 12) Tryz.func44 #[.int .i64 a1,.int .i64 1,.int .i64 (qg.length:Int)] ?_;(with_reducible refine(cK.calls a1 1 (qg.length:Int) Xy _ A4.out).mono ?_);rintro e w' ⟨rfl,⟨nd,rfl⟩⟩;refine⟨_,rfl,?_⟩))
 (try simp only[Act.put,s1,s2,s3])
 have H:=YT.out
 clear YT
 by_cases c12:Xy=true
 ·subst c12
  rw[if_pos rfl]at H
  obtain⟨BJ,Vs⟩:∃j_:Int,(wrap64 (a1-1))=j_:=⟨_,rfl⟩
  replace H:(if 0≤(BJ)then(if(BJ)<(qg.length:Int)then(some ((aT qg (BJ)).f0,(aT qg (BJ)).f1,(aT qg (BJ)).f2,true))else(none))else(none))=some (r1,r2,r3,r4):=by first|(rw[Vs]at H;exact H)|(simp only[Vs]at H ⊢;exact H)
  have hji13w:(IntKind.i64.wrap (a1-1))=BJ:=(iC _).trans Vs
  replace H:=sp H
  rcases H with⟨c14,H⟩|⟨c14,H⟩
  ·skip
   have c14b0:=decide_eq_true c14
   clear c14
   (first|rw[c14b0]|rw[c14b1]|rw[c14b2]|(simp only[iC,iQ];rw[c14b0])|skip)
   by_cases c15:(BJ)<(qg.length:Int)
   ·rw[if_pos c15]at H
    have c15b0:=decide_eq_true c15
    clear c15
    simp only[Option.some.injEq,Prod.mk.injEq]at H
    obtain⟨rfl,rfl,rfl,rfl⟩:=H
    have afs:0≤((BJ):Int):=of_decide_eq_true za
    have aft:(BJ)<(qg.length:Int):=of_decide_eq_true za
    obtain⟨aLn,aCh,auq,aur,aus⟩:=eP (Kd.R_reads' acf.out).2.2 (BJ) afs aft
    cases aCh
    replace afs:=eq_true afs
    replace aft:=eq_true aft
    have a0W:=BI.out
    have a0X:=BH.out
    obtain⟨wG,wH,JE,wI,wJ,JF⟩:=c3 EQ
    go_wp2
    refine bodyPost_ret (fu rfl _ _ ace 89 #[.string ((aT qg (BJ)).f0),.string ((aT qg (BJ)).f1),.bool ((aT qg (BJ)).f2)] (0,0) _ rfl (zp EQ) Tryz.underlying89 rfl (by kernel_rfl)) rfl ?_
    exact⟨by first|rfl|(simp[gY,gZ]<;>rfl)|(simp only[←Vs];first|rfl|(simp[gY,gZ]<;>rfl))|(simp[*,gY,gZ]<;>rfl)|(simp[gY,gZ];exact(by intro l_;cases l_<;>rfl:∀l_:List UInt8,l_.isEmpty= !(l_ != [])) _),zb HB⟩
   ·rw[if_neg c15]at H
    exact absurd H (by simp)
  ·skip
   exact absurd H (by simp)
 ·replace c12:=Bool.eq_false_iff.mpr c12
  subst c12
  rw[if_neg (show ¬(false=true) by decide)]at H
  simp only[Option.some.injEq,Prod.mk.injEq]at H
  obtain⟨rfl,rfl,rfl,rfl⟩:=H
  have abR:=BI.out
  have abS:=BH.out
  obtain⟨UH,UI,UJ,UK,UL,UM⟩:=c3 EQ
  go_wp2
  refine bodyPost_ret (fu rfl _ _ ace 89 #[.string (⟨#[]⟩:ByteArray),.string (⟨#[]⟩:ByteArray),.bool false] (0,0) _ rfl (zp EQ) Tryz.underlying89 rfl (by kernel_rfl)) rfl ?_
  exact⟨ze,zb HB⟩
mutual
def ax.l0:Nat→ByteArray→List Int→Int→Option (ByteArray×Bool)
 |0,_,_,_=>none
 |k+1,x0,x4,x5=>if x5<(x0.size:Int)then(if 0≤x5 then((bB.f k (wrap64 (bt x0 x5)) 8).bind fun O0=>(if x4.length+O0.length<17592186044416 then(ax.l0 k x0 (x4++O0) (wrap64 (x5+1)))else(none)))else(none))else(ax.l1 k x4 (⟨#[]⟩:ByteArray))
def ax.j2:Nat→List Int→ByteArray→Option (ByteArray×Bool)
 |0,_,_=>none
 |k+1,x4,x6=>ax.l2 k x4 x6 true 0
def ax.l2:Nat→List Int→ByteArray→Bool→Int→Option (ByteArray×Bool)
 |0,_,_,_,_=>none
 |k+1,x4,x6,x9,x10=>if x10<(x4.length:Int)then(if x9=true then(if 0≤x10 then(ax.l2 k x4 x6 ((rd x4 x10)==1) (wrap64 (x10+1)))else(none))else(ax.l2 k x4 x6 false (wrap64 (x10+1))))else(if x9=true then(if(x4.length:Int)<8 then(some (x6,decide ((x6.size:Int)≤16)))else(some (x6,false)))else(some (x6,false)))
def ax.l1:Nat→List Int→ByteArray→Option (ByteArray×Bool)
 |0,_,_=>none
 |k+1,x4,x6=>if(x4.length:Int)≥5 then(if 5≤(x4.length:Int)then((bS.f k (x4.take 5)).bind fun pQ=>(if pQ≥24 then(if(x4.length:Int)<7 then(ax.j2 k x4 x6)else(if 7≤(x4.length:Int)then((bS.f k (x4.take 7)).bind fun uE=>(if(wrap64 ((wrap64 (uE-96))+24))≥39 then(ax.j2 k x4 x6)else(if 0≤(wrap64 ((wrap64 (uE-96))+24))then(if(wrap64 ((wrap64 (uE-96))+24))<39 then((bP.f (wrap64 (bt (⟨#[101,116,97,111,105,110,115,114,104,108,48,49,50,51,52,53,54,55,56,57,100,99,117,109,102,112,103,119,121,98,118,107,120,106,113,122,58,47,45]⟩:ByteArray) (wrap64 ((wrap64 (uE-96))+24))))).bind fun vN=>(if x6.size+vN.size≤9223372036854775807 then(ax.l1 k (x4.drop (7:Int).toNat) (x6++vN))else(none)))else(none))else(none))))else(none)))else(if pQ≥39 then(ax.j2 k x4 x6)else(if 0≤pQ then(if pQ<39 then((bP.f (wrap64 (bt (⟨#[101,116,97,111,105,110,115,114,104,108,48,49,50,51,52,53,54,55,56,57,100,99,117,109,102,112,103,119,121,98,118,107,120,106,113,122,58,47,45]⟩:ByteArray) pQ))).bind fun ER=>(if x6.size+ER.size≤9223372036854775807 then(ax.l1 k (x4.drop (5:Int).toNat) (x6++ER))else(none)))else(none))else(none)))))else(none))else(ax.j2 k x4 x6)
end
def ax.f(k:Nat)(a0:ByteArray):Option (ByteArray×Bool):=ax.l0 k a0 (([]:List Int)) 0
theorem ax.mono_l:∀k,(∀y0 y1 y2,gV (ax.l0 k y0 y1 y2) (ax.l0 (k+1) y0 y1 y2))∧(∀y0 y1,gV (ax.j2 k y0 y1) (ax.j2 (k+1) y0 y1))∧(∀y0 y1 y2 y3,gV (ax.l2 k y0 y1 y2 y3) (ax.l2 (k+1) y0 y1 y2 y3))∧(∀y0 y1,gV (ax.l1 k y0 y1) (ax.l1 (k+1) y0 y1))
 |0=>⟨fun _ _ _ r h=>by simp[ax.l0]at h,fun _ _ r h=>by simp[ax.j2]at h,fun _ _ _ _ r h=>by simp[ax.l2]at h,fun _ _ r h=>by simp[ax.l1]at h⟩
 |k+1=>by
  obtain⟨ng,ih1,ih2,ih3⟩:=ax.mono_l k
  refine⟨?_,?_,?_,?_⟩
  ·intro y0 y1 y2
   unfold ax.l0
   have m0:=@bB.mono
   have m1:=@bS.mono
   exact zm
  ·intro y0 y1
   unfold ax.j2
   have m0:=@bB.mono
   have m1:=@bS.mono
   exact zm
  ·intro y0 y1 y2 y3
   unfold ax.l2
   have m0:=@bB.mono
   have m1:=@bS.mono
   exact zm
  ·intro y0 y1
   unfold ax.l1
   have m0:=@bB.mono
   have m1:=@bS.mono
   exact zm
theorem ax.mono:∀a0 k,gV (ax.f k a0) (ax.f (k+1) a0):=by
 intro a0 k
 obtain⟨ng,ih1,ih2,ih3⟩:=ax.mono_l k
 unfold ax.f
 have m0:=@bB.mono
 have m1:=@bS.mono
 exact zm
theorem ax.calls(k:Nat)(a0:ByteArray)(r1:ByteArray)(r2:Bool)(w:World)(h:ax.f k a0=some (r1,r2)):
 Calls Tryz.prog 124 #[.string a0] w fun e w'=>e= .returned (.tuple #[.string r1,.bool r2])∧Below w.heap.size w w':=by
 have HB:=ah.mk (Below.refl w.heap.size w)
 have H:(ax.l0 k a0 (([]:List Int)) 0)=some (r1,r2):=h
 clear h
 obtain⟨amv,O1⟩:∃y_:List Int,y_=(([]:List Int)):=⟨_,rfl⟩
 replace H:(ax.l0 k a0 amv 0)=some (r1,r2):=by first|(rw[O1];with_reducible exact H)|(have fF:=(Option.bind_some _ _).symm.trans H;rw[O1];with_reducible exact fF)|(have fF:=(Option.bind_some _ _).symm.trans H;with_reducible exact fF)|with_reducible exact H|(rw[O1];exact H)|exact H
 have acg:=ah.mk O1
 clear O1
 have H':=ah.mk H
 clear H
 go_enter Tryz.func124,Tryz.ntmps124
 go_wp2_with (first|((with_reducible refine gd 11 rfl ?_);(try(refine aM (by rfl) ?_;dsimp only));refine Kd.R_lit (Kd.int .i64) _ 3 ?hg (N:=11) ?hd (xs:=([]:List Int)) (inner:=[]) (ok:=fun _=>True) (okp:=fun _=>True) ?hr ?hp (fun _ hk=>hk) trivial (Below.refl _ _) (Nat.le_refl _) (by simp) ?_;(case hd=>rfl);(case hg=>rfl);(case hr=>first|(go_simp;done)|(go_simp;rfl));(case hp=>exact(dm.none _ _));intro aQ0 w2 ho3 hb nE fM;clear nE fM;(first|rw[←acg.out]at ho3|(simp only[Int.reduceToNat]at ho3;rw[←acg.out]at ho3));have amw:=ah.mk (Kd.R_lower ho3 (aJ (zb HB)));replace HB:=ah.mk (ai (zb HB) hb);clear hb ho3))
 go_loopg [4,5] k (fun kq v4 v5 w'=>∃(eu:List Int)(jE:Int),v5= .int .i64 jE∧ah (ax.l0 kq a0 eu jE=some (r1,r2))∧ah (kq≤k)∧ah (Kd.R (Kd.int .i64) 3 w' w.heap.size (fun _=>True) v4 eu)∧ah (Below w.heap.size w w'))
 case atStart=>exact⟨(amv),(0),zs,H',⟨Nat.le_refl _⟩,⟨by exact zr amw⟩,⟨zb HB⟩⟩
 case round=>
  clear H'
  try clear c1
  try clear p2
  obtain⟨eu,jE,rfl,HA,jc,HO_4,HB⟩:=hrel
  cases gk with
  |zero=>exact absurd HA.out (by simp[ax.l0])
  |succ k1=>
   have H:=HA.out
   clear HA
   simp only[ax.l0]at H
   replace H:=sp H
   rcases H with⟨c4,H⟩|⟨c4,H⟩
   ·skip
    have c4b0:=decide_eq_true c4
    clear c4
    by_cases c5:0≤jE
    ·rw[if_pos c5]at H
     have c5b0:=decide_eq_true c5
     clear c5
     obtain⟨O0,A7,H⟩:=ob H
     (try dsimp only at H)
     by_cases c8:eu.length+O0.length<17592186044416
     ·rw[if_pos c8]at H
      have aCi:=ah.mk c8
      clear c8
      obtain⟨amx,O3⟩:∃y_:List Int,y_=(eu++O0):=⟨_,rfl⟩
      replace H:(ax.l0 k1 a0 amx (wrap64 (jE+1)))=some (r1,r2):=by first|(rw[O3];with_reducible exact H)|(have fF:=(Option.bind_some _ _).symm.trans H;rw[O3];with_reducible exact fF)|(have fF:=(Option.bind_some _ _).symm.trans H;with_reducible exact fF)|with_reducible exact H|(rw[O3];exact H)|exact H
      have amy:=ah.mk O3
      clear O3
      have H':=ah.mk H
      clear H
      have p6:0≤(jE:Int):=of_decide_eq_true za
      have q6:jE<(a0.size:Int):=of_decide_eq_true za
      have hx6:=gB a0 jE
      replace p6:=eq_true p6
      replace q6:=eq_true q6
      go_wp2_with (first|((with_reducible refine gq 114 rfl ?_);refine gl (some 23) Tryz.func114 #[.int .i64 (wrap64 (bt a0 jE)),.int .i64 8] ?_;(with_reducible refine(bB.calls k1 (wrap64 (bt a0 jE)) 8 O0 _ A7.out).mono ?_);rintro e w9 ⟨aQ1,rfl,ho0,hb⟩;refine⟨_,rfl,?_⟩;have O4:=ah.mk (Kd.R_lower (Kd.R_new' ho0 (Kd.R_lt (zr HO_4))) (aJ (zb HB)));replace HO_4:=ah.mk (Kd.R_elder' (zr HO_4) (Kd.R_base ho0) hb);replace HB:=ah.mk (ai (zb HB) hb);(try clear hb);(try clear ho0);obtain⟨a8D,a8E,a18⟩:=Kd.R_slice O4.out;subst a18)|((with_reducible refine kS (b:=.append) (xs:=#[.tmp 18,.tmp 23]) rfl ?_);(try(refine aM (by rfl) ?_;dsimp only));at_builtin;refine Kd.R_append_rows (Kd.int .i64) (w0:=w) w.heap.size rfl (.tmp 18) (.tmp 23) 91 3 (.int .i64 0) 8 rfl Tryz.underlying91 info3 rfl (by decide) (by omega) u4 eu O0 _ _ _ (fun k_=>some k_≠(.slice a8D O0.length a8E:Value).ownBlock) (fun _=>False) rfl rfl ?aO ?aR (fun _ _ h=>h) (fun _ h=>h.elim) ?aF ?aB ?aS ?aL ?_;(case aR=>exact zc (Kd.R_reads' O4.out).2.2);(case aB=>exact(zb HB));(case aF=>exact(fun k_ hk=>Kd.fresh' (Kd.R_lt (zr O4)) k_ hk));(case aO=>exact(zq (Kd.R_mono HO_4.out (fun _ hk=>hk.2))));(case aS=>exact(aJ (zb HB)));(case aL=>have:=aCi.out;omega);intro aQ2 w10 ho hb hg hat;rw[←amy.out]at ho;replace O4:=ah.mk (Kd.R_after (ok:=(fun _=>True)) (zr O4) hg hat);replace HB:=ah.mk (hb);have amz:=ah.mk (ho);clear HO_4;clear ho hb hg hat))
      go_roundg k1
      case measure=>have:=jc.out;omega
      case rel=>exact⟨(amx),(wrap64 (jE+1)),zs,H',⟨by have:=jc.out;omega⟩,⟨zq (Kd.R_mono amz.out (fun _ hk=>trivial))⟩,⟨zb HB⟩⟩
     ·rw[if_neg c8]at H
      exact absurd H (by simp)
    ·rw[if_neg c5]at H
     exact absurd H (by simp)
   ·skip
    have c4b0:=decide_eq_false c4
    clear c4
    have afu:=ah.mk H
    clear H
    go_upto_block 2 with(fail)
    go_cut [4,6] (fun v4 v6 wc=>∃(kq:Nat)(ES:List Int)(Vt:ByteArray),v6= .string Vt∧ah (ax.j2 kq ES Vt=some (r1,r2))∧ah (kq≤k1)∧ah (Kd.Q (Kd.int .i64) 3 wc w.heap.size (fun _=>True) v4 ES)∧ah (Below w.heap.size w wc))
    case first=>
     have H:=afu.out
     clear afu
     have H':=ah.mk H
     clear H
     go_wp2
     go_loopg [4,6] k1 (fun kq v4 v6 w'=>∃(iE:List Int)(oo:ByteArray),v6= .string oo∧ah (ax.l1 kq iE oo=some (r1,r2))∧ah (kq≤k1)∧ah (Kd.Q (Kd.int .i64) 3 w' w.heap.size (fun _=>True) v4 iE)∧ah (Below w.heap.size w w'))
     case atStart=>exact⟨(eu),((⟨#[]⟩:ByteArray)),zs,H',⟨Nat.le_refl _⟩,⟨Kd.Q_of_R (zr HO_4)⟩,⟨zb HB⟩⟩
     case round=>
      clear H'
      try clear c1
      try clear p2
      try clear c4
      try clear c4b0
      try clear c5
      try clear c5b0
      try clear p6
      try clear q6
      try clear hx6
      try clear c8
      try clear c11
      try clear c12
      try clear p2
      try clear p6
      try clear q6
      obtain⟨iE,oo,rfl,HA,M5,HO_4,HB⟩:=hrel
      cases gk with
      |zero=>exact absurd HA.out (by simp[ax.l1])
      |succ k2=>
       have H:=HA.out
       clear HA
       simp only[ax.l1]at H
       replace H:=sp H
       rcases H with⟨c13,H⟩|⟨c13,H⟩
       ·skip
        have c13b0:=decide_eq_true c13
        have c13b1:=decide_eq_true (by omega)
        clear c13
        (first|rw[c13b0]|rw[c13b1]|rw[c13b2]|(simp only[iC,iQ];rw[c13b0])|skip)
        by_cases c14:5≤(iE.length:Int)
        ·rw[if_pos c14]at H
         have c14b0:=eq_true c14
         have c14b1:=decide_eq_true c14
         clear c14
         obtain⟨vO,O5⟩:∃y_:List Int,y_=(iE.take 5):=⟨_,rfl⟩
         replace H:((bS.f k2 vO).bind fun pQ=>(if pQ≥24 then(if(iE.length:Int)<7 then(ax.j2 k2 iE oo)else(if 7≤(iE.length:Int)then((bS.f k2 (iE.take 7)).bind fun uE=>(if(wrap64 ((wrap64 (uE-96))+24))≥39 then(ax.j2 k2 iE oo)else(if 0≤(wrap64 ((wrap64 (uE-96))+24))then(if(wrap64 ((wrap64 (uE-96))+24))<39 then((bP.f (wrap64 (bt (⟨#[101,116,97,111,105,110,115,114,104,108,48,49,50,51,52,53,54,55,56,57,100,99,117,109,102,112,103,119,121,98,118,107,120,106,113,122,58,47,45]⟩:ByteArray) (wrap64 ((wrap64 (uE-96))+24))))).bind fun vN=>(if oo.size+vN.size≤9223372036854775807 then(ax.l1 k2 (iE.drop (7:Int).toNat) (oo++vN))else(none)))else(none))else(none))))else(none)))else(if pQ≥39 then(ax.j2 k2 iE oo)else(if 0≤pQ then(if pQ<39 then((bP.f (wrap64 (bt (⟨#[101,116,97,111,105,110,115,114,104,108,48,49,50,51,52,53,54,55,56,57,100,99,117,109,102,112,103,119,121,98,118,107,120,106,113,122,58,47,45]⟩:ByteArray) pQ))).bind fun ER=>(if oo.size+ER.size≤9223372036854775807 then(ax.l1 k2 (iE.drop (5:Int).toNat) (oo++ER))else(none)))else(none))else(none)))))=some (r1,r2):=by first|(rw[O5];with_reducible exact H)|(have fF:=(Option.bind_some _ _).symm.trans H;rw[O5];with_reducible exact fF)|(have fF:=(Option.bind_some _ _).symm.trans H;with_reducible exact fF)|with_reducible exact H|(rw[O5];exact H)|exact H
         have Cz:=ah.mk O5
         clear O5
         obtain⟨pQ,Yn,H⟩:=ob H
         (try dsimp only at H)
         by_cases c16:pQ≥24
         ·rw[if_pos c16]at H
          have c16b0:=decide_eq_true c16
          clear c16
          by_cases c17:(iE.length:Int)<7
          ·rw[if_pos c17]at H
           have c17b0:=decide_eq_true c17
           have c17b1:=decide_eq_true (by omega)
           clear c17
           have H':=ah.mk H
           clear H
           obtain⟨D8,BG,NJ,_⟩:=Kd.Q_slice HO_4.out
           subst NJ
           have q19:(5:Int)≤((iE.length:Int):Int):=of_decide_eq_true za
           obtain⟨aQ3,ach,_,amA,_⟩:=info_parts info3
           have hroom19:iE.length≤BG:=(Kd.Q_reads' HO_4.out).2.1
           have amB:Kd.C (Kd.int .i64) _ D8 iE.length iE:=(Kd.Q_reads' HO_4.out).2.2
           have afv:=Be (P:=Tryz.prog) 91 3 .i64 Tryz.underlying91 ach D8 iE.length BG 5 (by omega) q19 hroom19
           have afw:=Kd.C_take (m:=5) amB (by omega)
           have afx:vO.length=(5:Int).toNat:=(by rw[Cz.out,List.length_take];omega)
           rw[←Cz.out]at afw
           rw[←afx]at afv
           have vP:=ah.mk afw
           have EU:=ah.mk (show vO.length≤BG from by omega)
           clear afw amB hroom19 ach amA
           have aQ4:=ah.mk afx
           clear afx
           have aQ5:=ah.mk (show 5≤iE.length from by omega)
           replace q19:=eq_true q19
           go_wp2_with (first|((with_reducible refine gq 115 rfl ?_);refine gl (some 30) Tryz.func115 #[.slice D8 vO.length BG] ?_;(with_reducible refine(bS.calls k2 _ _ vO pQ _ ?aN ?aQ Yn.out).mono ?_);(case aN=>exact zc vP.out);(case aQ=>exact EU.out);rintro e w' ⟨rfl,⟨nd,rfl⟩⟩;refine⟨_,rfl,?_⟩))
           go_meet
           case rel=>exact⟨_,(iE),(oo),zs,H',⟨by have:=jc.out;have:=M5.out;first|omega|exact Nat.le_refl _⟩,⟨by(with_reducible repeat(first|apply Kd.Q_alloc|apply Kd.Q_drewN|apply Kd.Q_drew));exact HO_4.out⟩,⟨zb HB⟩⟩
          ·rw[if_neg c17]at H
           have c17b0:=decide_eq_false c17
           have c17b1:=decide_eq_false (by omega)
           clear c17
           by_cases c20:7≤(iE.length:Int)
           ·rw[if_pos c20]at H
            have c20b0:=eq_true c20
            have c20b1:=decide_eq_true c20
            clear c20
            obtain⟨a19,O6⟩:∃y_:List Int,y_=(iE.take 7):=⟨_,rfl⟩
            replace H:((bS.f k2 a19).bind fun uE=>(if(wrap64 ((wrap64 (uE-96))+24))≥39 then(ax.j2 k2 iE oo)else(if 0≤(wrap64 ((wrap64 (uE-96))+24))then(if(wrap64 ((wrap64 (uE-96))+24))<39 then((bP.f (wrap64 (bt (⟨#[101,116,97,111,105,110,115,114,104,108,48,49,50,51,52,53,54,55,56,57,100,99,117,109,102,112,103,119,121,98,118,107,120,106,113,122,58,47,45]⟩:ByteArray) (wrap64 ((wrap64 (uE-96))+24))))).bind fun vN=>(if oo.size+vN.size≤9223372036854775807 then(ax.l1 k2 (iE.drop (7:Int).toNat) (oo++vN))else(none)))else(none))else(none))))=some (r1,r2):=by first|(rw[O6];with_reducible exact H)|(have fF:=(Option.bind_some _ _).symm.trans H;rw[O6];with_reducible exact fF)|(have fF:=(Option.bind_some _ _).symm.trans H;with_reducible exact fF)|with_reducible exact H|(rw[O6];exact H)|exact H
            have aci:=ah.mk O6
            clear O6
            obtain⟨uE,A21,H⟩:=ob H
            (try dsimp only at H)
            have a1a:=ah.mk H
            clear H
            obtain⟨vQ,uF,afy,_⟩:=Kd.Q_slice HO_4.out
            subst afy
            have q24:(5:Int)≤((iE.length:Int):Int):=of_decide_eq_true za
            obtain⟨aQ6,acj,_,amC,_⟩:=info_parts info3
            have hroom24:iE.length≤uF:=(Kd.Q_reads' HO_4.out).2.1
            have amD:Kd.C (Kd.int .i64) _ vQ iE.length iE:=(Kd.Q_reads' HO_4.out).2.2
            have afz:=Be (P:=Tryz.prog) 91 3 .i64 Tryz.underlying91 acj vQ iE.length uF 5 (by omega) q24 hroom24
            have afA:=Kd.C_take (m:=5) amD (by omega)
            have hy24:vO.length=(5:Int).toNat:=(by rw[Cz.out,List.length_take];omega)
            rw[←Cz.out]at afA
            rw[←hy24]at afz
            have vP:=ah.mk afA
            have EU:=ah.mk (show vO.length≤uF from by omega)
            clear afA amD hroom24 acj amC
            have aQ7:=ah.mk hy24
            clear hy24
            have aQ8:=ah.mk (show 5≤iE.length from by omega)
            replace q24:=eq_true q24
            go_upto_if 42 with(first|((with_reducible refine gq 115 rfl ?_);refine gl (some 30) Tryz.func115 #[.slice vQ vO.length uF] ?_;(with_reducible refine(bS.calls k2 _ _ vO pQ _ ?aN ?aQ Yn.out).mono ?_);(case aN=>exact zc vP.out);(case aQ=>exact EU.out);rintro e w' ⟨rfl,⟨nd,rfl⟩⟩;refine⟨_,rfl,?_⟩;have q25:(7:Int)≤((iE.length:Int):Int):=of_decide_eq_true za;obtain⟨aQ9,ack,_,amE,_⟩:=info_parts info3;have hroom25:iE.length≤uF:=(Kd.Q_reads' HO_4.out).2.1;have amF:Kd.C (Kd.int .i64) _ vQ iE.length iE:=(Kd.Q_reads' HO_4.out).2.2;have afC:=Be (P:=Tryz.prog) 91 3 .i64 Tryz.underlying91 ack vQ iE.length uF 7 (by omega) q25 hroom25;have afD:=Kd.C_take (m:=7) amF (by omega);have hy25:a19.length=(7:Int).toNat:=(by rw[aci.out,List.length_take];omega);rw[←aci.out]at afD;rw[←hy25]at afC;have a1b:=ah.mk afD;have amG:=ah.mk (show a19.length≤uF from by omega);clear afD amF hroom25 ack amE;have aQa:=ah.mk hy25;clear hy25;have aQb:=ah.mk (show 7≤iE.length from by omega);replace q25:=eq_true q25)|((with_reducible refine gq 115 rfl ?_);refine gl (some 38) Tryz.func115 #[.slice vQ a19.length uF] ?_;(with_reducible refine(bS.calls k2 _ _ a19 uE _ ?aN ?aQ A21.out).mono ?_);(case aN=>exact zc a1b.out);(case aQ=>exact amG.out);rintro e w' ⟨rfl,⟨nd,rfl⟩⟩;refine⟨_,rfl,?_⟩))
            (try simp only[Act.put,s1,s2,s3])
            have H:=a1a.out
            clear a1a
            by_cases Ke:(wrap64 ((wrap64 (uE-96))+24))≥39
            ·rw[if_pos Ke]at H
             have c26b0:=decide_eq_true Ke
             clear Ke
             (first|rw[c26b0]|rw[c26b1]|rw[c26b2]|(simp only[iC,iQ];rw[c26b0])|skip)
             have H':=ah.mk H
             clear H
             go_wp2
             go_meet
             case rel=>exact⟨_,(iE),(oo),zs,H',⟨by have:=jc.out;have:=M5.out;first|omega|exact Nat.le_refl _⟩,⟨by(with_reducible repeat(first|apply Kd.Q_alloc|apply Kd.Q_drewN|apply Kd.Q_drew));exact HO_4.out⟩,⟨zb HB⟩⟩
            ·rw[if_neg Ke]at H
             have c26b0:=decide_eq_false Ke
             clear Ke
             (first|rw[c26b0]|rw[c26b1]|rw[c26b2]|(simp only[iC,iQ];rw[c26b0])|skip)
             obtain⟨EW,O7⟩:∃j_:Int,(wrap64 ((wrap64 (uE-96))+24))=j_:=⟨_,rfl⟩
             replace H:(if 0≤(EW)then(if(EW)<39 then((bP.f (wrap64 (bt (⟨#[101,116,97,111,105,110,115,114,104,108,48,49,50,51,52,53,54,55,56,57,100,99,117,109,102,112,103,119,121,98,118,107,120,106,113,122,58,47,45]⟩:ByteArray) (EW)))).bind fun vN=>(if oo.size+vN.size≤9223372036854775807 then(ax.l1 k2 (iE.drop (7:Int).toNat) (oo++vN))else(none)))else(none))else(none))=some (r1,r2):=by first|(rw[O7]at H;exact H)|(simp only[O7]at H ⊢;exact H)
             (try rw[O7]at c26b0)
             have hji27w:(IntKind.i64.wrap ((wrap64 (uE-96))+24))=EW:=(iC _).trans O7
             by_cases c28:0≤(EW)
             ·rw[if_pos c28]at H
              have c28b0:=decide_eq_true c28
              clear c28
              by_cases MC:(EW)<39
              ·rw[if_pos MC]at H
               have c29b0:=decide_eq_true MC
               clear MC
               obtain⟨vN,A31,H⟩:=ob H
               (try dsimp only at H)
               by_cases c32:oo.size+vN.size≤9223372036854775807
               ·rw[if_pos c32]at H
                have c32b0:=eq_true c32
                have c32b1:=decide_eq_true c32
                try have c32b2:(9223372036854775807<oo.size+vN.size)=False:=eq_false (Nat.not_lt.2 c32)
                have c33b0:=eq_true (of_decide_eq_true za:7≤(iE.length:Int))
                obtain⟨Xz,O8⟩:∃y_:List Int,y_=(iE.drop (7:Int).toNat):=⟨_,rfl⟩
                replace H:(ax.l1 k2 Xz (oo++vN))=some (r1,r2):=by first|(rw[O8];with_reducible exact H)|(have fF:=(Option.bind_some _ _).symm.trans H;rw[O8];with_reducible exact fF)|(have fF:=(Option.bind_some _ _).symm.trans H;with_reducible exact fF)|with_reducible exact H|(rw[O8];exact H)|exact H
                have aco:=ah.mk O8
                clear O8
                have H':=ah.mk H
                clear H
                have p30:0≤((EW):Int):=of_decide_eq_true za
                have q30:(EW)<(39:Int):=of_decide_eq_true za
                have amH:=gB (⟨#[101,116,97,111,105,110,115,114,104,108,48,49,50,51,52,53,54,55,56,57,100,99,117,109,102,112,103,119,121,98,118,107,120,106,113,122,58,47,45]⟩:ByteArray) (EW)
                replace p30:=eq_true p30
                replace q30:=eq_true q30
                go_wp2_with (first|((with_reducible refine gq 59 rfl ?_);refine Qi (some 47) rfl rfl Tryz.func59 (by kernel_rfl) rfl #[.int .i64 (wrap64 (bt (⟨#[101,116,97,111,105,110,115,114,104,108,48,49,50,51,52,53,54,55,56,57,100,99,117,109,102,112,103,119,121,98,118,107,120,106,113,122,58,47,45]⟩:ByteArray) (EW)))] rfl (by(try simp only[List.map_toArray,List.map_cons,List.map_nil]);first|done|(simp only[O7];rfl)|rfl|(simp only[List.length_drop,List.length_take];rfl)) ?_;(with_reducible refine(bP.calls (wrap64 (bt (⟨#[101,116,97,111,105,110,115,114,104,108,48,49,50,51,52,53,54,55,56,57,100,99,117,109,102,112,103,119,121,98,118,107,120,106,113,122,58,47,45]⟩:ByteArray) (EW))) vN _ A31.out).mono ?_);rintro e LZ ⟨rfl,hb⟩;refine⟨_,rfl,?_⟩;replace HO_4:=ah.mk (Kd.Q_below (by(with_reducible repeat(first|apply Kd.Q_alloc|apply Kd.Q_drewN|apply Kd.Q_drew));exact HO_4.out) hb);replace vP:=ah.mk (Kd.C_below (zc vP.out) hb);replace a1b:=ah.mk (Kd.C_below (zc a1b.out) hb);replace HB:=ah.mk (ai (zb HB) hb);(try clear hb);have q35:(7:Int)≤((iE.length:Int):Int):=of_decide_eq_true za;obtain⟨aQc,acp,_,acr,_⟩:=info_parts info3;have afF:=M9 (P:=Tryz.prog) 91 3 .i64 Tryz.underlying91 acp 1 acr vQ iE.length uF 7 (by omega) q35;have a1c:=Kd.Q_drop (k:=(7:Int).toNat) HO_4.out (by omega);obtain⟨A35,a8F⟩:∃A1,A1=(if uF=(7:Int).toNat then vQ else(vQ:Option Addr).map (·.add ((7:Int).toNat*1))):=⟨_,rfl⟩;obtain⟨Qc,afG⟩:∃c1,c1=uF-(7:Int).toNat:=⟨_,rfl⟩;have afH:Xz.length=iE.length-(7:Int).toNat:=(by rw[aco.out,List.length_drop]);rw[←aco.out]at a1c;rw[←afH,←a8F,←afG]at afF;replace a1c:Kd.Q (Kd.int .i64) 3 LZ w.heap.size (fun _=>True) (.slice A35 Xz.length Qc) Xz:=(by rw[a8F,afG,afH];exact a1c);have aQd:ah ((Value.slice A35 Xz.length Qc).ownBlock=(.slice vQ iE.length uF:Value).ownBlock):=⟨by rw[a8F];split<;>(cases(vQ:Option Addr)<;>rfl)⟩;clear afH acp acr HO_4 a8F afG;have amI:=ah.mk a1c;clear a1c;replace q35:=eq_true q35))
                go_roundg k2
                case measure=>have:=jc.out;have:=M5.out;omega
                case rel=>exact⟨(Xz),(oo++vN),zs,H',⟨by have:=jc.out;have:=M5.out;omega⟩,⟨by(with_reducible repeat(first|apply Kd.Q_alloc|apply Kd.Q_drewN|apply Kd.Q_drew));exact amI.out⟩,⟨zb HB⟩⟩
               ·rw[if_neg c32]at H
                exact absurd H (by simp)
              ·rw[if_neg MC]at H
               exact absurd H (by simp)
             ·rw[if_neg c28]at H
              exact absurd H (by simp)
           ·rw[if_neg c20]at H
            exact absurd H (by simp)
         ·rw[if_neg c16]at H
          have c16b0:=decide_eq_false c16
          clear c16
          by_cases c36:pQ≥39
          ·rw[if_pos c36]at H
           have c36b0:=decide_eq_true c36
           clear c36
           have H':=ah.mk H
           clear H
           obtain⟨afI,a8G,aCk,_⟩:=Kd.Q_slice HO_4.out
           subst aCk
           have q38:(5:Int)≤((iE.length:Int):Int):=of_decide_eq_true za
           obtain⟨aQe,acu,_,amJ,_⟩:=info_parts info3
           have hroom38:iE.length≤a8G:=(Kd.Q_reads' HO_4.out).2.1
           have amK:Kd.C (Kd.int .i64) _ afI iE.length iE:=(Kd.Q_reads' HO_4.out).2.2
           have afK:=Be (P:=Tryz.prog) 91 3 .i64 Tryz.underlying91 acu afI iE.length a8G 5 (by omega) q38 hroom38
           have afL:=Kd.C_take (m:=5) amK (by omega)
           have hy38:vO.length=(5:Int).toNat:=(by rw[Cz.out,List.length_take];omega)
           rw[←Cz.out]at afL
           rw[←hy38]at afK
           have vP:=ah.mk afL
           have EU:=ah.mk (show vO.length≤a8G from by omega)
           clear afL amK hroom38 acu amJ
           have aQf:=ah.mk hy38
           clear hy38
           have aQg:=ah.mk (show 5≤iE.length from by omega)
           replace q38:=eq_true q38
           go_wp2_with (first|((with_reducible refine gq 115 rfl ?_);refine gl (some 30) Tryz.func115 #[.slice afI vO.length a8G] ?_;(with_reducible refine(bS.calls k2 _ _ vO pQ _ ?aN ?aQ Yn.out).mono ?_);(case aN=>exact zc vP.out);(case aQ=>exact EU.out);rintro e w' ⟨rfl,⟨nd,rfl⟩⟩;refine⟨_,rfl,?_⟩))
           go_meet
           case rel=>exact⟨_,(iE),(oo),zs,H',⟨by have:=jc.out;have:=M5.out;first|omega|exact Nat.le_refl _⟩,⟨by(with_reducible repeat(first|apply Kd.Q_alloc|apply Kd.Q_drewN|apply Kd.Q_drew));exact HO_4.out⟩,⟨zb HB⟩⟩
          ·rw[if_neg c36]at H
           have c36b0:=decide_eq_false c36
           clear c36
           by_cases JR:0≤pQ
           ·rw[if_pos JR]at H
            have c39b0:=decide_eq_true JR
            clear JR
            by_cases c40:pQ<39
            ·rw[if_pos c40]at H
             have c40b0:=decide_eq_true c40
             clear c40
             obtain⟨ER,A42,H⟩:=ob H
             (try dsimp only at H)
             by_cases c43:oo.size+ER.size≤9223372036854775807
             ·rw[if_pos c43]at H
              have c43b0:=eq_true c43
              have c43b1:=decide_eq_true c43
              try have c43b2:(9223372036854775807<oo.size+ER.size)=False:=eq_false (Nat.not_lt.2 c43)
              have c44b0:=eq_true (of_decide_eq_true za:5≤(iE.length:Int))
              obtain⟨XA,O9⟩:∃y_:List Int,y_=(iE.drop (5:Int).toNat):=⟨_,rfl⟩
              replace H:(ax.l1 k2 XA (oo++ER))=some (r1,r2):=by first|(rw[O9];with_reducible exact H)|(have fF:=(Option.bind_some _ _).symm.trans H;rw[O9];with_reducible exact fF)|(have fF:=(Option.bind_some _ _).symm.trans H;with_reducible exact fF)|with_reducible exact H|(rw[O9];exact H)|exact H
              have acv:=ah.mk O9
              clear O9
              have H':=ah.mk H
              clear H
              obtain⟨Oa,Ob,aCl,_⟩:=Kd.Q_slice HO_4.out
              subst aCl
              have Qe:(5:Int)≤((iE.length:Int):Int):=of_decide_eq_true za
              obtain⟨aQi,acw,_,amL,_⟩:=info_parts info3
              have hroom46:iE.length≤Ob:=(Kd.Q_reads' HO_4.out).2.1
              have amM:Kd.C (Kd.int .i64) _ Oa iE.length iE:=(Kd.Q_reads' HO_4.out).2.2
              have afN:=Be (P:=Tryz.prog) 91 3 .i64 Tryz.underlying91 acw Oa iE.length Ob 5 (by omega) Qe hroom46
              have afO:=Kd.C_take (m:=5) amM (by omega)
              have afP:vO.length=(5:Int).toNat:=(by rw[Cz.out,List.length_take];omega)
              rw[←Cz.out]at afO
              rw[←afP]at afN
              have vP:=ah.mk afO
              have EU:=ah.mk (show vO.length≤Ob from by omega)
              clear afO amM hroom46 acw amL
              have aQj:=ah.mk afP
              clear afP
              have aQk:=ah.mk (show 5≤iE.length from by omega)
              replace Qe:=eq_true Qe
              go_wp2_with (first|((with_reducible refine gq 115 rfl ?_);refine gl (some 30) Tryz.func115 #[.slice Oa vO.length Ob] ?_;(with_reducible refine(bS.calls k2 _ _ vO pQ _ ?aN ?aQ Yn.out).mono ?_);(case aN=>exact zc vP.out);(case aQ=>exact EU.out);rintro e w' ⟨rfl,⟨nd,rfl⟩⟩;refine⟨_,rfl,?_⟩;have p41:0≤(pQ:Int):=of_decide_eq_true za;have q41:pQ<(39:Int):=of_decide_eq_true za;have amN:=gB (⟨#[101,116,97,111,105,110,115,114,104,108,48,49,50,51,52,53,54,55,56,57,100,99,117,109,102,112,103,119,121,98,118,107,120,106,113,122,58,47,45]⟩:ByteArray) pQ;replace p41:=eq_true p41;replace q41:=eq_true q41)|((with_reducible refine gq 59 rfl ?_);refine gl (some 47) Tryz.func59 #[.int .i64 (wrap64 (bt (⟨#[101,116,97,111,105,110,115,114,104,108,48,49,50,51,52,53,54,55,56,57,100,99,117,109,102,112,103,119,121,98,118,107,120,106,113,122,58,47,45]⟩:ByteArray) pQ))] ?_;(with_reducible refine(bP.calls (wrap64 (bt (⟨#[101,116,97,111,105,110,115,114,104,108,48,49,50,51,52,53,54,55,56,57,100,99,117,109,102,112,103,119,121,98,118,107,120,106,113,122,58,47,45]⟩:ByteArray) pQ)) ER _ A42.out).mono ?_);rintro e w47 ⟨rfl,hb⟩;refine⟨_,rfl,?_⟩;replace HO_4:=ah.mk (Kd.Q_below (by(with_reducible repeat(first|apply Kd.Q_alloc|apply Kd.Q_drewN|apply Kd.Q_drew));exact HO_4.out) hb);replace vP:=ah.mk (Kd.C_below (zc vP.out) hb);replace HB:=ah.mk (ai (zb HB) hb);(try clear hb);have q48:(5:Int)≤((iE.length:Int):Int):=of_decide_eq_true za;obtain⟨aQl,acy,_,acz,_⟩:=info_parts info3;have afR:=M9 (P:=Tryz.prog) 91 3 .i64 Tryz.underlying91 acy 1 acz Oa iE.length Ob 5 (by omega) q48;have a1d:=Kd.Q_drop (k:=(5:Int).toNat) HO_4.out (by omega);obtain⟨A48,a8H⟩:∃A1,A1=(if Ob=(5:Int).toNat then Oa else(Oa:Option Addr).map (·.add ((5:Int).toNat*1))):=⟨_,rfl⟩;obtain⟨c48,afS⟩:∃c1,c1=Ob-(5:Int).toNat:=⟨_,rfl⟩;have afT:XA.length=iE.length-(5:Int).toNat:=(by rw[acv.out,List.length_drop]);rw[←acv.out]at a1d;rw[←afT,←a8H,←afS]at afR;replace a1d:Kd.Q (Kd.int .i64) 3 w47 w.heap.size (fun _=>True) (.slice A48 XA.length c48) XA:=(by rw[a8H,afS,afT];exact a1d);have aQm:ah ((Value.slice A48 XA.length c48).ownBlock=(.slice Oa iE.length Ob:Value).ownBlock):=⟨by rw[a8H];split<;>(cases(Oa:Option Addr)<;>rfl)⟩;clear afT acy acz HO_4 a8H afS;have amO:=ah.mk a1d;clear a1d;replace q48:=eq_true q48))
              go_roundg k2
              case measure=>have:=jc.out;have:=M5.out;omega
              case rel=>exact⟨(XA),(oo++ER),zs,H',⟨by have:=jc.out;have:=M5.out;omega⟩,⟨by(with_reducible repeat(first|apply Kd.Q_alloc|apply Kd.Q_drewN|apply Kd.Q_drew));exact amO.out⟩,⟨zb HB⟩⟩
             ·rw[if_neg c43]at H
              exact absurd H (by simp)
            ·rw[if_neg c40]at H
             exact absurd H (by simp)
           ·rw[if_neg JR]at H
            exact absurd H (by simp)
        ·rw[if_neg c14]at H
         exact absurd H (by simp)
       ·skip
        have c13b0:=decide_eq_false c13
        have c13b1:=decide_eq_false (by omega)
        clear c13
        (first|rw[c13b0]|rw[c13b1]|rw[c13b2]|(simp only[iC,iQ];rw[c13b0])|skip)
        have H':=ah.mk H
        clear H
        obtain⟨aQn,aQo,aCm,_⟩:=Kd.Q_slice HO_4.out
        subst aCm
        go_wp2
        go_meet
        case rel=>exact⟨_,(iE),(oo),zs,H',⟨by have:=jc.out;have:=M5.out;first|omega|exact Nat.le_refl _⟩,⟨by(with_reducible repeat(first|apply Kd.Q_alloc|apply Kd.Q_drewN|apply Kd.Q_drew));exact HO_4.out⟩,⟨zb HB⟩⟩
    case rest=>
     clear afu
     try clear c1
     try clear q1
     try clear c2
     try clear p2
     try clear q2
     try clear c3
     try clear p3
     try clear q3
     try clear hx3
     try clear c4
     try clear c4b0
     try clear p4
     try clear q4
     try clear hx4
     try clear c5
     try clear c5b0
     try clear p6
     try clear q6
     try clear hx6
     try clear c8
     try clear c11
     try clear c12
     try clear c13
     try clear c13b0
     try clear c13b1
     try clear c13b2
     try clear c14
     try clear c14b0
     try clear c14b1
     try clear c16
     try clear c16b0
     try clear c17
     try clear c17b0
     try clear c17b1
     try clear q19
     try clear c20
     try clear c20b0
     try clear c20b1
     try clear q24
     try clear q25
     try clear Ke
     try clear c26b0
     try clear c26b1
     try clear c26b2
     try clear c28
     try clear c28b0
     try clear MC
     try clear c29b0
     try clear p30
     try clear q30
     try clear amH
     try clear c32
     try clear c32b0
     try clear c32b1
     try clear c32b2
     try clear c33
     try clear c33b0
     try clear Qc
     try clear q35
     try clear c36
     try clear c36b0
     try clear q38
     try clear JR
     try clear c39b0
     try clear c40
     try clear c40b0
     try clear p41
     try clear q41
     try clear amN
     try clear c43
     try clear c43b0
     try clear c43b1
     try clear c43b2
     try clear c44
     try clear c44b0
     try clear Qe
     try clear c48
     try clear q48
     try clear p2
     try clear p30
     try clear p41
     try clear p6
     try clear q19
     try clear q24
     try clear q25
     try clear q30
     try clear q35
     try clear q38
     try clear q41
     try clear Qe
     try clear q48
     try clear q6
     obtain⟨kq,ES,Vt,rfl,HA,a8J,HO_4,HB⟩:=hcut
     cases kq with
     |zero=>exact absurd HA.out (by simp[ax.j2])
     |succ amP=>
      have H:=HA.out
      clear HA
      simp only[ax.j2]at H
      have H':=ah.mk H
      clear H
      go_wp2
      go_loopg [9,10] amP (fun kq v9 v10 w'=>∃(a1e:Bool)(xQ:Int),v9= .bool a1e∧v10= .int .i64 xQ∧ah (ax.l2 kq ES Vt a1e xQ=some (r1,r2))∧ah (kq≤amP)∧ah (Kd.Q (Kd.int .i64) 3 w' w.heap.size (fun _=>True) u4 ES)∧ah (Below w.heap.size w w'))
      case atStart=>exact⟨(true),(0),zs,zs,H',⟨Nat.le_refl _⟩,⟨by(with_reducible repeat(first|apply Kd.Q_alloc|apply Kd.Q_drewN|apply Kd.Q_drew));exact HO_4.out⟩,⟨zb HB⟩⟩
      case round=>
       clear H'
       try clear c1
       try clear q1
       try clear c2
       try clear p2
       try clear q2
       try clear c3
       try clear p3
       try clear q3
       try clear hx3
       try clear c4
       try clear c4b0
       try clear p4
       try clear q4
       try clear hx4
       try clear c5
       try clear c5b0
       try clear p6
       try clear q6
       try clear hx6
       try clear c8
       try clear c11
       try clear c12
       try clear c13
       try clear c13b0
       try clear c13b1
       try clear c13b2
       try clear c14
       try clear c14b0
       try clear c14b1
       try clear c16
       try clear c16b0
       try clear c17
       try clear c17b0
       try clear c17b1
       try clear q19
       try clear c20
       try clear c20b0
       try clear c20b1
       try clear q24
       try clear q25
       try clear Ke
       try clear c26b0
       try clear c26b1
       try clear c26b2
       try clear c28
       try clear c28b0
       try clear MC
       try clear c29b0
       try clear p30
       try clear q30
       try clear amH
       try clear c32
       try clear c32b0
       try clear c32b1
       try clear c32b2
       try clear c33
       try clear c33b0
       try clear Qc
       try clear q35
       try clear c36
       try clear c36b0
       try clear q38
       try clear JR
       try clear c39b0
       try clear c40
       try clear c40b0
       try clear p41
       try clear q41
       try clear amN
       try clear c43
       try clear c43b0
       try clear c43b1
       try clear c43b2
       try clear c44
       try clear c44b0
       try clear Qe
       try clear c48
       try clear q48
       try clear p2
       try clear p3
       try clear p30
       try clear p4
       try clear p41
       try clear p6
       try clear q1
       try clear q19
       try clear q2
       try clear q24
       try clear q25
       try clear q3
       try clear q30
       try clear q35
       try clear q38
       try clear q4
       try clear q41
       try clear Qe
       try clear q48
       try clear q6
       obtain⟨a1e,xQ,rfl,rfl,HA,HK3,HO_4,HB⟩:=hrel
       cases gk with
       |zero=>exact absurd HA.out (by simp[ax.l2])
       |succ k3=>
        have H:=HA.out
        clear HA
        simp only[ax.l2]at H
        replace H:=sp H
        rcases H with⟨c50,H⟩|⟨c50,H⟩
        ·skip
         have c50b0:=decide_eq_true c50
         clear c50
         by_cases c51:a1e=true
         ·subst c51
          rw[if_pos rfl]at H
          by_cases c52:0≤xQ
          ·rw[if_pos c52]at H
           have c52b0:=decide_eq_true c52
           clear c52
           have H':=ah.mk H
           clear H
           obtain⟨a1f,a1g,afV,_⟩:=Kd.Q_slice HO_4.out
           subst afV
           have afW:0≤(xQ:Int):=of_decide_eq_true za
           have afX:xQ<(ES.length:Int):=of_decide_eq_true za
           obtain⟨aLo,aCn,auv⟩:=Kd.at_int (Kd.Q_reads' HO_4.out).2.2 xQ afW afX
           cases aCn
           replace afW:=eq_true afW
           replace afX:=eq_true afX
           go_wp2
           go_roundg k3
           case measure=>have:=jc.out;have:=a8J.out;have:=HK3.out;omega
           case rel=>exact⟨(((rd ES xQ)==1)),(wrap64 (xQ+1)),zs,zs,H',⟨by have:=jc.out;have:=a8J.out;have:=HK3.out;omega⟩,⟨by(with_reducible repeat(first|apply Kd.Q_alloc|apply Kd.Q_drewN|apply Kd.Q_drew));exact HO_4.out⟩,⟨zb HB⟩⟩
          ·rw[if_neg c52]at H
           exact absurd H (by simp)
         ·replace c51:=Bool.eq_false_iff.mpr c51
          subst c51
          rw[if_neg (show ¬(false=true) by decide)]at H
          have H':=ah.mk H
          clear H
          obtain⟨aQp,aQq,aCo,_⟩:=Kd.Q_slice HO_4.out
          subst aCo
          go_wp2
          go_roundg k3
          case measure=>have:=jc.out;have:=a8J.out;have:=HK3.out;omega
          case rel=>exact⟨(false),(wrap64 (xQ+1)),zs,zs,H',⟨by have:=jc.out;have:=a8J.out;have:=HK3.out;omega⟩,⟨by(with_reducible repeat(first|apply Kd.Q_alloc|apply Kd.Q_drewN|apply Kd.Q_drew));exact HO_4.out⟩,⟨zb HB⟩⟩
        ·skip
         have c50b0:=decide_eq_false c50
         clear c50
         by_cases c55:a1e=true
         ·subst c55
          rw[if_pos rfl]at H
          replace H:=sp H
          rcases H with⟨c56,H⟩|⟨c56,H⟩
          ·skip
           have c56b0:=decide_eq_true c56
           have c56b1:=decide_eq_true (by omega)
           clear c56
           simp only[Option.some.injEq,Prod.mk.injEq]at H
           obtain⟨rfl,rfl⟩:=H
           obtain⟨amS,amT,afY,_⟩:=Kd.Q_slice HO_4.out
           subst afY
           go_wp2
           go_ret2
           exact⟨ze,zb HB⟩
          ·skip
           have c56b0:=decide_eq_false c56
           have c56b1:=decide_eq_false (by omega)
           clear c56
           simp only[Option.some.injEq,Prod.mk.injEq]at H
           obtain⟨rfl,rfl⟩:=H
           obtain⟨aQr,aQs,aCp,_⟩:=Kd.Q_slice HO_4.out
           subst aCp
           go_wp2
           go_ret2
           exact⟨ze,zb HB⟩
         ·replace c55:=Bool.eq_false_iff.mpr c55
          subst c55
          rw[if_neg (show ¬(false=true) by decide)]at H
          simp only[Option.some.injEq,Prod.mk.injEq]at H
          obtain⟨rfl,rfl⟩:=H
          obtain⟨aQt,aQu,aCq,_⟩:=Kd.Q_slice HO_4.out
          subst aCq
          go_wp2
          go_ret2
          exact⟨ze,zb HB⟩
def fG.f(k:Nat)(a0:ByteArray):Option (ByteArray×Bool):=if(a0.size:Int)>16 then(some ((⟨#[]⟩:ByteArray),false))else((ax.f k a0).bind fun Oc=>(if Oc.2=true then(some (Oc.1,true))else(some ((⟨#[]⟩:ByteArray),false))))
theorem fG.mono:∀a0 k,gV (fG.f k a0) (fG.f (k+1) a0):=by
 intro a0 k
 unfold fG.f
 have m0:=@ax.mono
 exact zm
theorem fG.calls(k:Nat)(a0:ByteArray)(r1:ByteArray)(r2:Bool)(w:World)(h:fG.f k a0=some (r1,r2)):
 Calls Tryz.prog 123 #[.string a0] w fun e w'=>e= .returned (.tuple #[.string r1,.bool r2])∧Below w.heap.size w w':=by
 have HB:=ah.mk (Below.refl w.heap.size w)
 have H:(if(a0.size:Int)>16 then(some ((⟨#[]⟩:ByteArray),false))else((ax.f k a0).bind fun Oc=>(if Oc.2=true then(some (Oc.1,true))else(some ((⟨#[]⟩:ByteArray),false)))))=some (r1,r2):=h
 clear h
 replace H:=sp H
 rcases H with⟨c2,H⟩|⟨c2,H⟩
 ·skip
  have c2b0:=decide_eq_true c2
  have c2b1:=decide_eq_true (by omega)
  clear c2
  simp only[Option.some.injEq,Prod.mk.injEq]at H
  obtain⟨rfl,rfl⟩:=H
  go_enter Tryz.func123,Tryz.ntmps123
  go_wp2
  go_ret2
  exact⟨ze,zb HB⟩
 ·skip
  have c2b0:=decide_eq_false c2
  have c2b1:=decide_eq_false (by omega)
  clear c2
  obtain⟨⟨amU,aCr⟩,A3,H⟩:=ob H
  (try dsimp only at H)
  by_cases c4:aCr=true
  ·subst c4
   rw[if_pos rfl]at H
   simp only[Option.some.injEq,Prod.mk.injEq]at H
   obtain⟨rfl,rfl⟩:=H
   go_enter Tryz.func123,Tryz.ntmps123
   go_wp2_with (first|((with_reducible refine gq 124 rfl ?_);refine gl (some 11) Tryz.func124 #[.string a0] ?_;(with_reducible refine(ax.calls k a0 amU true _ A3.out).mono ?_);rintro e w5 ⟨rfl,hb⟩;refine⟨_,rfl,?_⟩;replace HB:=ah.mk (ai (zb HB) hb);(try clear hb)))
   go_ret2
   exact⟨ze,zb HB⟩
  ·replace c4:=Bool.eq_false_iff.mpr c4
   subst c4
   rw[if_neg (show ¬(false=true) by decide)]at H
   simp only[Option.some.injEq,Prod.mk.injEq]at H
   obtain⟨rfl,rfl⟩:=H
   go_enter Tryz.func123,Tryz.ntmps123
   go_wp2_with (first|((with_reducible refine gq 124 rfl ?_);refine gl (some 11) Tryz.func124 #[.string a0] ?_;(with_reducible refine(ax.calls k a0 amU false _ A3.out).mono ?_);rintro e w6 ⟨rfl,hb⟩;refine⟨_,rfl,?_⟩;replace HB:=ah.mk (ai (zb HB) hb);(try clear hb)))
   go_ret2
   exact⟨ze,zb HB⟩
def bG.j0:Nat→ByteArray→Int→Int→Bool→Option (ByteArray×Int×Bool)
 |0,_,_,_,_=>none
 |k+1,x0,x5,x6,x30=>if x30=true then(some ((⟨#[]⟩:ByteArray),0,false))else(if 0≤x6 then(if x6≤(wrap64 (x6+x5))then(if(wrap64 (x6+x5))≤(x0.size:Int)then(if 0<(x0.size:Int)then(if(bt x0 0)≥128 then((fG.f k (x0.extract (x6:Int).toNat ((wrap64 (x6+x5)):Int).toNat)).bind fun acA=>(if acA.2=true then(some (acA.1,wrap64 (x6+x5),true))else(some ((⟨#[]⟩:ByteArray),0,false))))else((aW.f k (x0.extract (x6:Int).toNat ((wrap64 (x6+x5)):Int).toNat)).bind fun afZ=>(if afZ=true then(some (x0.extract (x6:Int).toNat ((wrap64 (x6+x5)):Int).toNat,wrap64 (x6+x5),true))else(some ((⟨#[]⟩:ByteArray),0,false)))))else(none))else(none))else(none))else(none))
def bG.f(k:Nat)(a0:ByteArray):Option (ByteArray×Int×Bool):=(aI.f k a0 7).bind fun mW=>(if mW.2.2=true then(if mW.1>16 then(bG.j0 k a0 mW.1 mW.2.1 true)else(bG.j0 k a0 mW.1 mW.2.1 (decide ((wrap64 (mW.2.1+mW.1))>(a0.size:Int)))))else(bG.j0 k a0 mW.1 mW.2.1 true))
theorem bG.mono_l:∀k,(∀y0 y1 y2 y3,gV (bG.j0 k y0 y1 y2 y3) (bG.j0 (k+1) y0 y1 y2 y3))
 |0=>fun _ _ _ _ r h=>by simp[bG.j0]at h
 |k+1=>by
  have ng:=bG.mono_l k
  ·intro y0 y1 y2 y3
   unfold bG.j0
   have m0:=@aW.mono
   have m1:=@fG.mono
   have m2:=@aI.mono
   exact zm
theorem bG.mono:∀a0 k,gV (bG.f k a0) (bG.f (k+1) a0):=by
 intro a0 k
 have ng:=bG.mono_l k
 unfold bG.f
 have m0:=@aW.mono
 have m1:=@fG.mono
 have m2:=@aI.mono
 exact zm
theorem bG.calls(k:Nat)(a0:ByteArray)(r1:ByteArray)(r2:Int)(r3:Bool)(w:World)(h:bG.f k a0=some (r1,r2,r3)):
 Calls Tryz.prog 121 #[.string a0] w fun e w'=>e= .returned (.tuple #[.string r1,.int .i64 r2,.bool r3])∧Below w.heap.size w w':=by
 have HB:=ah.mk (Below.refl w.heap.size w)
 have H:((aI.f k a0 7).bind fun mW=>(if mW.2.2=true then(if mW.1>16 then(bG.j0 k a0 mW.1 mW.2.1 true)else(bG.j0 k a0 mW.1 mW.2.1 (decide ((wrap64 (mW.2.1+mW.1))>(a0.size:Int)))))else(bG.j0 k a0 mW.1 mW.2.1 true)))=some (r1,r2,r3):=h
 clear h
 obtain⟨⟨BK,qX,amV⟩,A2,H⟩:=ob H
 (try dsimp only at H)
 have HC3:=ah.mk H
 clear H
 go_enter Tryz.func121,Tryz.ntmps121
 go_upto_region 2 with(first|((with_reducible refine gq 116 rfl ?_);refine gl (some 13) Tryz.func116 #[.string a0,.int .i64 7] ?_;(with_reducible refine(aI.calls k a0 7 BK qX amV _ A2.out).mono ?_);rintro e w' ⟨rfl,⟨nd,rfl⟩⟩;refine⟨_,rfl,?_⟩))
 (try simp only[Act.put,s1,s2,s3])
 go_cut [30] (fun v30 wc=>∃(kq:Nat)(Vu:Bool),v30= .bool Vu∧ah (bG.j0 kq a0 BK qX Vu=some (r1,r2,r3))∧ah (kq≤k)∧ah (Below w.heap.size w wc))
 case first=>
  have H:=HC3.out
  clear HC3
  by_cases c4:amV=true
  ·subst c4
   rw[if_pos rfl]at H
   replace H:=sp H
   rcases H with⟨c5,H⟩|⟨c5,H⟩
   ·skip
    have c5b0:=decide_eq_true c5
    clear c5
    (first|rw[c5b0]|rw[c5b1]|rw[c5b2]|(simp only[iC,iQ];rw[c5b0])|skip)
    have H':=ah.mk H
    clear H
    go_wp2
    go_meet
    case rel=>exact⟨_,(true),zs,H',⟨by first|omega|exact Nat.le_refl _⟩,⟨zb HB⟩⟩
   ·skip
    have c5b0:=decide_eq_false c5
    clear c5
    (first|rw[c5b0]|rw[c5b1]|rw[c5b2]|(simp only[iC,iQ];rw[c5b0])|skip)
    have H':=ah.mk H
    clear H
    go_wp2
    go_meet
    case rel=>exact⟨_,(decide ((wrap64 (qX+BK))>(a0.size:Int))),zs,H',⟨by first|omega|exact Nat.le_refl _⟩,⟨zb HB⟩⟩
  ·replace c4:=Bool.eq_false_iff.mpr c4
   subst c4
   rw[if_neg (show ¬(false=true) by decide)]at H
   have H':=ah.mk H
   clear H
   go_wp2
   go_meet
   case rel=>exact⟨_,(true),zs,H',⟨by first|omega|exact Nat.le_refl _⟩,⟨zb HB⟩⟩
 case rest=>
  clear HC3
  try clear c1
  try clear p2
  try clear c4
  try clear c5
  try clear c5b0
  try clear c5b1
  try clear c5b2
  obtain⟨kq,Vu,rfl,HA,HJ2,HB⟩:=hcut
  cases kq with
  |zero=>exact absurd HA.out (by simp[bG.j0])
  |succ kj2=>
   have H:=HA.out
   clear HA
   simp only[bG.j0]at H
   by_cases c6:Vu=true
   ·subst c6
    rw[if_pos rfl]at H
    simp only[Option.some.injEq,Prod.mk.injEq]at H
    obtain⟨rfl,rfl,rfl⟩:=H
    go_wp2
    go_ret3
    exact⟨ze,zb HB⟩
   ·replace c6:=Bool.eq_false_iff.mpr c6
    subst c6
    rw[if_neg (show ¬(false=true) by decide)]at H
    replace H:=sp H
    rcases H with⟨c7,H⟩|⟨c7,H⟩
    ·skip
     have c7b0:=eq_true c7
     have c7b1:=decide_eq_true c7
     clear c7
     by_cases c8:qX≤(wrap64 (qX+BK))
     ·rw[if_pos c8]at H
      have c8b0:=eq_true c8
      have c8b1:=decide_eq_true c8
      by_cases c9:(wrap64 (qX+BK))≤(a0.size:Int)
      ·rw[if_pos c9]at H
       have c9b0:=eq_true c9
       have c9b1:=decide_eq_true c9
       by_cases c10:0<(a0.size:Int)
       ·rw[if_pos c10]at H
        have c10b0:=decide_eq_true c10
        have c10b1:=decide_eq_true (by omega)
        clear c10
        by_cases c12:(bt a0 0)≥128
        ·rw[if_pos c12]at H
         have c12b0:=decide_eq_true c12
         clear c12
         obtain⟨⟨amW,aCs⟩,A13,H⟩:=ob H
         (try dsimp only at H)
         by_cases c14:aCs=true
         ·subst c14
          rw[if_pos rfl]at H
          simp only[Option.some.injEq,Prod.mk.injEq]at H
          obtain⟨rfl,rfl,rfl⟩:=H
          have p11:0≤(0:Int):=(by omega)
          have Qf:0<a0.size:=(by have:(0:Int)<(a0.size:Int):=of_decide_eq_true za;omega)
          have a1i:∀h:0<a0.size,((a0[0]'h).toNat:Int)=bt a0 0:=gB a0 0
          clear p11
          have a1j:(0<(a0.size:Int))=True:=eq_true (of_decide_eq_true za)
          replace Qf:=eq_true Qf
          go_wp2_with (first|((with_reducible refine gq 123 rfl ?_);refine gl (some 42) Tryz.func123 #[.string (a0.extract (qX:Int).toNat ((wrap64 (qX+BK)):Int).toNat)] ?_;(with_reducible refine(fG.calls kj2 (a0.extract (qX:Int).toNat ((wrap64 (qX+BK)):Int).toNat) amW true _ A13.out).mono ?_);rintro e w15 ⟨rfl,hb⟩;refine⟨_,rfl,?_⟩;replace HB:=ah.mk (ai (zb HB) hb);(try clear hb)))
          go_ret3
          exact⟨ze,zb HB⟩
         ·replace c14:=Bool.eq_false_iff.mpr c14
          subst c14
          rw[if_neg (show ¬(false=true) by decide)]at H
          simp only[Option.some.injEq,Prod.mk.injEq]at H
          obtain⟨rfl,rfl,rfl⟩:=H
          have p11:0≤(0:Int):=(by omega)
          have Qf:0<a0.size:=(by have:(0:Int)<(a0.size:Int):=of_decide_eq_true za;omega)
          have a1i:∀h:0<a0.size,((a0[0]'h).toNat:Int)=bt a0 0:=gB a0 0
          clear p11
          have a1j:(0<(a0.size:Int))=True:=eq_true (of_decide_eq_true za)
          replace Qf:=eq_true Qf
          go_wp2_with (first|((with_reducible refine gq 123 rfl ?_);refine gl (some 42) Tryz.func123 #[.string (a0.extract (qX:Int).toNat ((wrap64 (qX+BK)):Int).toNat)] ?_;(with_reducible refine(fG.calls kj2 (a0.extract (qX:Int).toNat ((wrap64 (qX+BK)):Int).toNat) amW false _ A13.out).mono ?_);rintro e w16 ⟨rfl,hb⟩;refine⟨_,rfl,?_⟩;replace HB:=ah.mk (ai (zb HB) hb);(try clear hb)))
          go_ret3
          exact⟨ze,zb HB⟩
        ·rw[if_neg c12]at H
         have c12b0:=decide_eq_false c12
         clear c12
         obtain⟨afZ,Xn,H⟩:=ob H
         (try dsimp only at H)
         by_cases c18:afZ=true
         ·subst c18
          rw[if_pos rfl]at H
          simp only[Option.some.injEq,Prod.mk.injEq]at H
          obtain⟨rfl,rfl,rfl⟩:=H
          have p11:0≤(0:Int):=(by omega)
          have Qf:0<a0.size:=(by have:(0:Int)<(a0.size:Int):=of_decide_eq_true za;omega)
          have a1i:∀h:0<a0.size,((a0[0]'h).toNat:Int)=bt a0 0:=gB a0 0
          clear p11
          have a1j:(0<(a0.size:Int))=True:=eq_true (of_decide_eq_true za)
          replace Qf:=eq_true Qf
          go_wp2_with (first|((with_reducible refine gq 55 rfl ?_);refine gl (some 52) Tryz.func55 #[.string (a0.extract (qX:Int).toNat ((wrap64 (qX+BK)):Int).toNat)] ?_;(with_reducible refine(aW.calls kj2 (a0.extract (qX:Int).toNat ((wrap64 (qX+BK)):Int).toNat) true _ Xn.out).mono ?_);rintro e w' ⟨rfl,⟨nd,rfl⟩⟩;refine⟨_,rfl,?_⟩))
          go_ret3
          exact⟨ze,zb HB⟩
         ·replace c18:=Bool.eq_false_iff.mpr c18
          subst c18
          rw[if_neg (show ¬(false=true) by decide)]at H
          simp only[Option.some.injEq,Prod.mk.injEq]at H
          obtain⟨rfl,rfl,rfl⟩:=H
          have p11:0≤(0:Int):=(by omega)
          have Qf:0<a0.size:=(by have:(0:Int)<(a0.size:Int):=of_decide_eq_true za;omega)
          have a1i:∀h:0<a0.size,((a0[0]'h).toNat:Int)=bt a0 0:=gB a0 0
          clear p11
          have a1j:(0<(a0.size:Int))=True:=eq_true (of_decide_eq_true za)
          replace Qf:=eq_true Qf
          go_wp2_with (first|((with_reducible refine gq 55 rfl ?_);refine gl (some 52) Tryz.func55 #[.string (a0.extract (qX:Int).toNat ((wrap64 (qX+BK)):Int).toNat)] ?_;(with_reducible refine(aW.calls kj2 (a0.extract (qX:Int).toNat ((wrap64 (qX+BK)):Int).toNat) false _ Xn.out).mono ?_);rintro e w' ⟨rfl,⟨nd,rfl⟩⟩;refine⟨_,rfl,?_⟩))
          go_ret3
          exact⟨ze,zb HB⟩
       ·rw[if_neg c10]at H
        exact absurd H (by simp)
      ·rw[if_neg c9]at H
       exact absurd H (by simp)
     ·rw[if_neg c8]at H
      exact absurd H (by simp)
    ·skip
     exact absurd H (by simp)
def gU.f(k:Nat)(aH:List (bg))(aA:Int)(a1:ByteArray)(a2:Int):Option (ByteArray×ByteArray×Bool×Int×Bool):=(aI.f k a1 a2).bind fun jS=>(if jS.2.2=true then(if jS.1=0 then(if 0≤jS.2.1 then(if jS.2.1≤(a1.size:Int)then((bG.f k (a1.extract (jS.2.1:Int).toNat a1.size)).bind fun qH=>(if qH.2.2=true then(if qH.1.toList=([]:List UInt8)then(some ((⟨#[]⟩:ByteArray),(⟨#[]⟩:ByteArray),false,0,false))else(if 0≤(wrap64 (jS.2.1+qH.2.1))then(if(wrap64 (jS.2.1+qH.2.1))≤(a1.size:Int)then((bG.f k (a1.extract ((wrap64 (jS.2.1+qH.2.1)):Int).toNat a1.size)).bind fun vR=>(some (qH.1,vR.1,false,wrap64 ((wrap64 (jS.2.1+qH.2.1))+vR.2.1),vR.2.2)))else(none))else(none)))else(some ((⟨#[]⟩:ByteArray),(⟨#[]⟩:ByteArray),false,0,false))))else(none))else(none))else((kF.f aH aA jS.1).bind fun Od=>(if Od.2.2.2=true then(if 0≤jS.2.1 then(if jS.2.1≤(a1.size:Int)then((bG.f k (a1.extract (jS.2.1:Int).toNat a1.size)).bind fun EX=>(some (Od.1,EX.1,false,wrap64 (jS.2.1+EX.2.1),EX.2.2)))else(none))else(none))else(some ((⟨#[]⟩:ByteArray),(⟨#[]⟩:ByteArray),false,0,false)))))else(some ((⟨#[]⟩:ByteArray),(⟨#[]⟩:ByteArray),false,0,false)))
theorem gU.mono:∀a0 a1 a2 a3 k,gV (gU.f k a0 a1 a2 a3) (gU.f (k+1) a0 a1 a2 a3):=by
 intro a0 a1 a2 a3 k
 unfold gU.f
 have m0:=@aI.mono
 have m1:=@bG.mono
 exact zm
theorem gU.calls(k:Nat)(iW:Option Addr)(iX:Nat)(aH:List (bg))(aA:Int)(a1:ByteArray)(a2:Int)(r1:ByteArray)(r2:ByteArray)(r3:Bool)(r4:Int)(r5:Bool)(w:World)(kM:Kd.C iF w iW aH.length aH)(kN:aH.length≤iX)(h:gU.f k aH aA a1 a2=some (r1,r2,r3,r4,r5)):
 Calls Tryz.prog 118 #[.agg #[.slice iW aH.length iX,.int .i64 aA],.string a1,.int .i64 a2] w fun e w'=>e= .returned (.tuple #[.agg #[.string r1,.string r2,.bool r3],.int .i64 r4,.bool r5])∧Below w.heap.size w w':=by
 have zB:=Tryz.underlying25
 have rZ:=Tryz.underlying89
 have lF:=ah.mk kM
 have oZ:=ah.mk kN
 clear kM kN
 have HB:=ah.mk (Below.refl w.heap.size w)
 have H:((aI.f k a1 a2).bind fun jS=>(if jS.2.2=true then(if jS.1=0 then(if 0≤jS.2.1 then(if jS.2.1≤(a1.size:Int)then((bG.f k (a1.extract (jS.2.1:Int).toNat a1.size)).bind fun qH=>(if qH.2.2=true then(if qH.1.toList=([]:List UInt8)then(some ((⟨#[]⟩:ByteArray),(⟨#[]⟩:ByteArray),false,0,false))else(if 0≤(wrap64 (jS.2.1+qH.2.1))then(if(wrap64 (jS.2.1+qH.2.1))≤(a1.size:Int)then((bG.f k (a1.extract ((wrap64 (jS.2.1+qH.2.1)):Int).toNat a1.size)).bind fun vR=>(some (qH.1,vR.1,false,wrap64 ((wrap64 (jS.2.1+qH.2.1))+vR.2.1),vR.2.2)))else(none))else(none)))else(some ((⟨#[]⟩:ByteArray),(⟨#[]⟩:ByteArray),false,0,false))))else(none))else(none))else((kF.f aH aA jS.1).bind fun Od=>(if Od.2.2.2=true then(if 0≤jS.2.1 then(if jS.2.1≤(a1.size:Int)then((bG.f k (a1.extract (jS.2.1:Int).toNat a1.size)).bind fun EX=>(some (Od.1,EX.1,false,wrap64 (jS.2.1+EX.2.1),EX.2.2)))else(none))else(none))else(some ((⟨#[]⟩:ByteArray),(⟨#[]⟩:ByteArray),false,0,false)))))else(some ((⟨#[]⟩:ByteArray),(⟨#[]⟩:ByteArray),false,0,false))))=some (r1,r2,r3,r4,r5):=h
 clear h
 obtain⟨⟨QV,Ag,amX⟩,A4,H⟩:=ob H
 (try dsimp only at H)
 have YT:=ah.mk H
 clear H
 go_enter Tryz.func118,Tryz.ntmps118
 go_upto_if 29 with(first|((with_reducible refine gd 3 rfl ?_);refine bx (N:=3) (cs:=#[.slice iW aH.length iX,.int .i64 aA]) (t:=25) ?_;intro H9 hg w6 hbox hb;have mO:=ah.mk (hbox);have amY:=gw HB hg;have aLp:=amY;replace HB:=ah.mk (ai (zb HB) hb);clear hb hbox hg)|((with_reducible refine gd 6 rfl ?_);refine bx (N:=6) (cs:=#[.string (⟨#[]⟩:ByteArray),.string (⟨#[]⟩:ByteArray),.bool false]) (t:=89) ?_;intro uU hg w7 hbox hb;have jL:=ah.mk (hbox);have amZ:=gw HB hg;have aLq:=amZ;replace HB:=ah.mk (ai (zb HB) hb);obtain⟨ow,oD⟩:=nb mO hg;replace mO:=kb mO hb;clear hb hbox hg)|((with_reducible refine gq 116 rfl ?_);refine gl (some 24) Tryz.func116 #[.string a1,.int .i64 a2] ?_;(with_reducible refine(aI.calls k a1 a2 QV Ag amX _ A4.out).mono ?_);rintro e w' ⟨rfl,⟨nd,rfl⟩⟩;refine⟨_,rfl,?_⟩))
 (try simp only[Act.put,s1,s2,s3])
 have H:=YT.out
 clear YT
 by_cases c8:amX=true
 ·subst c8
  rw[if_pos rfl]at H
  have HC9:=ah.mk H
  clear H
  go_upto_if 33 with(first|((with_reducible refine gd 12 rfl ?_);refine bx (N:=12) (cs:=#[.string (⟨#[]⟩:ByteArray),.string (⟨#[]⟩:ByteArray),.bool false]) (t:=89) ?_;intro He hg w10 hbox hb;have nH:=ah.mk (hbox);have an0:=gw HB hg;have aLr:=an0;replace HB:=ah.mk (ai (zb HB) hb);obtain⟨wP,wQ⟩:=nb mO hg;replace mO:=kb mO hb;obtain⟨qo,qp⟩:=nb jL hg;replace jL:=kb jL hb;clear hb hbox hg;have aLs:=wQ.out;have aLt:=wP.out;have an1:=qp.out;have an2:=qo.out;obtain⟨JU,JV,Vv,JW,JX,Vw⟩:=c3 nH))
  (try simp only[Act.put,s1,s2,s3])
  have H:=HC9.out
  clear HC9
  replace H:=sp H
  rcases H with⟨c14,H⟩|⟨c14,H⟩
  ·skip
   have c14b0:(QV==0)=true:=beq_iff_eq.mpr c14
   have c14b1:(QV != 0)=false:=bne_eq_false_iff_eq.mpr c14
   clear c14
   (first|rw[c14b0]|rw[c14b1]|rw[c14b2]|(simp only[iC,iQ];rw[c14b0])|skip)
   by_cases c15:0≤Ag
   ·rw[if_pos c15]at H
    have c15b0:=eq_true c15
    have c15b1:=decide_eq_true c15
    clear c15
    by_cases c16:Ag≤(a1.size:Int)
    ·rw[if_pos c16]at H
     have c16b0:=eq_true c16
     have c16b1:=decide_eq_true c16
     clear c16
     obtain⟨⟨EY,a1k,aCt⟩,Xn,H⟩:=ob H
     (try dsimp only at H)
     by_cases c18:aCt=true
     ·subst c18
      rw[if_pos rfl]at H
      by_cases c19:EY.toList=([]:List UInt8)
      ·rw[if_pos c19]at H
       have c19b0:(EY.toList==([]:List UInt8))=true:=beq_iff_eq.mpr c19
       have c19b1:(EY.toList != ([]:List UInt8))=false:=bne_eq_false_iff_eq.mpr c19
       clear c19
       simp only[Option.some.injEq,Prod.mk.injEq]at H
       obtain⟨rfl,rfl,rfl,rfl,rfl⟩:=H
       go_wp2_with (first|((with_reducible refine gq 121 rfl ?_);refine gl (some 38) Tryz.func121 #[.string (a1.extract (Ag:Int).toNat a1.size)] ?_;(with_reducible refine(bG.calls k (a1.extract (Ag:Int).toNat a1.size) EY a1k true _ Xn.out).mono ?_);rintro e w20 ⟨rfl,hb⟩;refine⟨_,rfl,?_⟩;replace mO:=ah.mk (dX (g:=H9) (o:=.cells #[.slice iW aH.length iX,.int .i64 aA] 25 (0,0)) (zp mO) hb);replace jL:=ah.mk (dX (g:=uU) (o:=.cells #[.string (⟨#[]⟩:ByteArray),.string (⟨#[]⟩:ByteArray),.bool false] 89 (0,0)) (zp jL) hb);replace nH:=ah.mk (dX (g:=He) (o:=.cells #[.string (⟨#[]⟩:ByteArray),.string (⟨#[]⟩:ByteArray),.bool false] 89 (0,0)) (zp nH) hb);replace HB:=ah.mk (ai (zb HB) hb);(try clear hb);have acB:=oD.out;have acC:=ow.out;have abF:=qo.out;have abG:=qp.out;obtain⟨JN,JO,UB,JP,JQ,UC⟩:=c3 jL))
       refine bodyPost_ret (fJ rfl _ _ uU 89 #[.string (⟨#[]⟩:ByteArray),.string (⟨#[]⟩:ByteArray),.bool false] (0,0) _ rfl (zp jL) Tryz.underlying89 rfl (by kernel_rfl)) rfl ?_
       exact⟨ze,zb HB⟩
      ·rw[if_neg c19]at H
       have c19b0:(EY.toList==([]:List UInt8))=false:=beq_eq_false_iff_ne.mpr c19
       have c19b1:(EY.toList != ([]:List UInt8))=true:=bne_iff_ne.mpr c19
       obtain⟨Kg,Hf⟩:∃j_:Int,(wrap64 (Ag+a1k))=j_:=⟨_,rfl⟩
       replace H:(if 0≤(Kg)then(if(Kg)≤(a1.size:Int)then((bG.f k (a1.extract ((Kg):Int).toNat a1.size)).bind fun vR=>(some (EY,vR.1,false,wrap64 ((Kg)+vR.2.1),vR.2.2)))else(none))else(none))=some (r1,r2,r3,r4,r5):=by first|(rw[Hf]at H;exact H)|(simp only[Hf]at H ⊢;exact H)
       (try rw[Hf]at Xn)
       have hji24w:(IntKind.i64.wrap (Ag+a1k))=Kg:=(iC _).trans Hf
       by_cases Gf:0≤(Kg)
       ·rw[if_pos Gf]at H
        have c25b0:=eq_true Gf
        have c25b1:=decide_eq_true Gf
        clear Gf
        by_cases Ke:(Kg)≤(a1.size:Int)
        ·rw[if_pos Ke]at H
         have c26b0:=eq_true Ke
         have c26b1:=decide_eq_true Ke
         clear Ke
         obtain⟨⟨an3,aCu,aCv⟩,A27,H⟩:=ob H
         (try dsimp only at H)
         simp only[Option.some.injEq,Prod.mk.injEq]at H
         obtain⟨rfl,rfl,rfl,rfl,rfl⟩:=H
         go_wp2_with (first|((with_reducible refine gq 121 rfl ?_);refine gl (some 38) Tryz.func121 #[.string (a1.extract (Ag:Int).toNat a1.size)] ?_;(with_reducible refine(bG.calls k (a1.extract (Ag:Int).toNat a1.size) EY a1k true _ Xn.out).mono ?_);rintro e w28 ⟨rfl,hb⟩;refine⟨_,rfl,?_⟩;replace mO:=ah.mk (dX (g:=H9) (o:=.cells #[.slice iW aH.length iX,.int .i64 aA] 25 (0,0)) (zp mO) hb);replace jL:=ah.mk (dX (g:=uU) (o:=.cells #[.string (⟨#[]⟩:ByteArray),.string (⟨#[]⟩:ByteArray),.bool false] 89 (0,0)) (zp jL) hb);replace nH:=ah.mk (dX (g:=He) (o:=.cells #[.string (⟨#[]⟩:ByteArray),.string (⟨#[]⟩:ByteArray),.bool false] 89 (0,0)) (zp nH) hb);replace HB:=ah.mk (ai (zb HB) hb);(try clear hb);have alU:=wQ.out;have alV:=wP.out;have abU:=qp.out;have abV:=qo.out;obtain⟨Dl,Dm,Dn,Dp,Dq,Dr⟩:=c3 nH)|((with_reducible refine gq 121 rfl ?_);refine Qi (some 70) rfl rfl Tryz.func121 (by kernel_rfl) rfl #[.string (a1.extract ((Kg):Int).toNat a1.size)] rfl (by(try simp only[List.map_toArray,List.map_cons,List.map_nil]);first|done|(simp only[Hf];rfl)|rfl|(simp only[List.length_drop,List.length_take];rfl)) ?_;(with_reducible refine(bG.calls k (a1.extract ((Kg):Int).toNat a1.size) an3 aCu aCv _ A27.out).mono ?_);rintro e w32 ⟨rfl,hb⟩;refine⟨_,rfl,?_⟩;replace mO:=ah.mk (dX (g:=H9) (o:=.cells #[.slice iW aH.length iX,.int .i64 aA] 25 (0,0)) (zp mO) hb);replace jL:=ah.mk (dX (g:=uU) (o:=.cells #[.string (⟨#[]⟩:ByteArray),.string (⟨#[]⟩:ByteArray),.bool false] 89 (0,0)) (zp jL) hb);replace nH:=ah.mk (dX (g:=He) (o:=.cells #[.string EY,.string (⟨#[]⟩:ByteArray),.bool false] 89 (0,0)) (zp nH) hb);replace HB:=ah.mk (ai (zb HB) hb);(try clear hb);obtain⟨yY,yZ,z8,zf,zi,zl⟩:=c3 nH;have acD:=oD.out;have acE:=ow.out;obtain⟨Jd,Je,Ua,Jf,Jg,Ub⟩:=c3 jL))
         refine bodyPost_ret (fJ rfl _ _ uU 89 #[.string EY,.string an3,.bool false] (0,0) _ rfl (zp jL) Tryz.underlying89 rfl (by kernel_rfl)) rfl ?_
         exact⟨by first|rfl|(simp[gY,gZ]<;>rfl)|(simp only[←Hf];first|rfl|(simp[gY,gZ]<;>rfl))|(simp[*,gY,gZ]<;>rfl)|(simp[gY,gZ];exact(by intro l_;cases l_<;>rfl:∀l_:List UInt8,l_.isEmpty= !(l_ != [])) _),zb HB⟩
        ·rw[if_neg Ke]at H
         exact absurd H (by simp)
       ·rw[if_neg Gf]at H
        exact absurd H (by simp)
     ·replace c18:=Bool.eq_false_iff.mpr c18
      subst c18
      rw[if_neg (show ¬(false=true) by decide)]at H
      simp only[Option.some.injEq,Prod.mk.injEq]at H
      obtain⟨rfl,rfl,rfl,rfl,rfl⟩:=H
      go_wp2_with (first|((with_reducible refine gq 121 rfl ?_);refine gl (some 38) Tryz.func121 #[.string (a1.extract (Ag:Int).toNat a1.size)] ?_;(with_reducible refine(bG.calls k (a1.extract (Ag:Int).toNat a1.size) EY a1k false _ Xn.out).mono ?_);rintro e w36 ⟨rfl,hb⟩;refine⟨_,rfl,?_⟩;replace mO:=ah.mk (dX (g:=H9) (o:=.cells #[.slice iW aH.length iX,.int .i64 aA] 25 (0,0)) (zp mO) hb);replace jL:=ah.mk (dX (g:=uU) (o:=.cells #[.string (⟨#[]⟩:ByteArray),.string (⟨#[]⟩:ByteArray),.bool false] 89 (0,0)) (zp jL) hb);replace nH:=ah.mk (dX (g:=He) (o:=.cells #[.string (⟨#[]⟩:ByteArray),.string (⟨#[]⟩:ByteArray),.bool false] 89 (0,0)) (zp nH) hb);replace HB:=ah.mk (ai (zb HB) hb);(try clear hb);have a0S:=oD.out;have a0T:=ow.out;have alX:=qo.out;have alY:=qp.out;obtain⟨Jl,Jm,Jo,Jp,Jq,Jr⟩:=c3 jL))
      refine bodyPost_ret (fJ rfl _ _ uU 89 #[.string (⟨#[]⟩:ByteArray),.string (⟨#[]⟩:ByteArray),.bool false] (0,0) _ rfl (zp jL) Tryz.underlying89 rfl (by kernel_rfl)) rfl ?_
      exact⟨ze,zb HB⟩
    ·rw[if_neg c16]at H
     exact absurd H (by simp)
   ·rw[if_neg c15]at H
    exact absurd H (by simp)
  ·skip
   have c14b0:(QV==0)=false:=beq_eq_false_iff_ne.mpr c14
   have c14b1:(QV != 0)=true:=bne_iff_ne.mpr c14
   (first|rw[c14b0]|rw[c14b1]|rw[c14b2]|(simp only[iC,iQ];rw[c14b0])|skip)
   obtain⟨⟨a8L,an4,an5,an6⟩,A40,H⟩:=ob H
   (try dsimp only at H)
   have an7:=ah.mk H
   clear H
   have abY:=ow.out
   have abZ:=oD.out
   have ac0:=wP.out
   have ac1:=wQ.out
   obtain⟨Vj,Vk,Vl,Vm⟩:=c2 mO
   go_upto_if 61 with(first|((with_reducible refine gq 117 rfl ?_);refine gl (some 57) Tryz.func117 #[.agg #[.slice iW aH.length iX,.int .i64 aA],.int .i64 QV] ?_;(with_reducible refine(kF.calls _ _ aH aA QV a8L an4 an5 an6 _ ?aN ?aQ A40.out).mono ?_);(case aN=>exact Kd.C_below lF.out (zb HB));(case aQ=>exact oZ.out);rintro e w45 ⟨rfl,hb⟩;refine⟨_,rfl,?_⟩;replace mO:=ah.mk (dX (g:=H9) (o:=.cells #[.slice iW aH.length iX,.int .i64 aA] 25 (0,0)) (zp mO) hb);replace jL:=ah.mk (dX (g:=uU) (o:=.cells #[.string (⟨#[]⟩:ByteArray),.string (⟨#[]⟩:ByteArray),.bool false] 89 (0,0)) (zp jL) hb);replace nH:=ah.mk (dX (g:=He) (o:=.cells #[.string (⟨#[]⟩:ByteArray),.string (⟨#[]⟩:ByteArray),.bool false] 89 (0,0)) (zp nH) hb);replace HB:=ah.mk (ai (zb HB) hb);(try clear hb))|((with_reducible refine gd 16 rfl ?_);refine bx (N:=16) (cs:=#[.string (⟨#[]⟩:ByteArray),.string (⟨#[]⟩:ByteArray),.bool false]) (t:=89) ?_;intro an8 hg w46 hbox hb;have Vx:=ah.mk (hbox);have an9:=gw HB hg;have aLu:=an9;replace HB:=ah.mk (ai (zb HB) hb);obtain⟨Hg,Hl⟩:=nb mO hg;replace mO:=kb mO hb;obtain⟨BL,BM⟩:=nb jL hg;replace jL:=kb jL hb;obtain⟨Ho,Hq⟩:=nb nH hg;replace nH:=kb nH hb;clear hb hbox hg;have aLv:=Hl.out;have aLw:=Hg.out;have ana:=BM.out;have anb:=BL.out;have aLx:=Hq.out;have aLy:=Ho.out;obtain⟨auy,auz,auA,auB,auC,auD⟩:=c3 Vx))
   (try simp only[Act.put,s1,s2,s3])
   have H:=an7.out
   clear an7
   by_cases c51:an6=true
   ·subst c51
    rw[if_pos rfl]at H
    replace H:=sp H
    rcases H with⟨c52,H⟩|⟨c52,H⟩
    ·skip
     have c52b0:=eq_true c52
     have c52b1:=decide_eq_true c52
     clear c52
     by_cases c53:Ag≤(a1.size:Int)
     ·rw[if_pos c53]at H
      have c53b0:=eq_true c53
      have c53b1:=decide_eq_true c53
      clear c53
      obtain⟨⟨anc,aCw,aCx⟩,A54,H⟩:=ob H
      (try dsimp only at H)
      simp only[Option.some.injEq,Prod.mk.injEq]at H
      obtain⟨rfl,rfl,rfl,rfl,rfl⟩:=H
      have ane:=Hl.out
      have anf:=Hg.out
      have ang:=BM.out
      have anh:=BL.out
      have acF:=Hq.out
      have acG:=Ho.out
      obtain⟨Vy,Vz,a8M,VA,VB,a8N⟩:=c3 Vx
      have ani:=wQ.out
      have anj:=wP.out
      have ank:=qp.out
      have anl:=qo.out
      obtain⟨a8O,a8P,auE,a8Q,a8R,auF⟩:=c3 nH
      go_wp2_with (first|((with_reducible refine gq 121 rfl ?_);refine gl (some 70) Tryz.func121 #[.string (a1.extract (Ag:Int).toNat a1.size)] ?_;(with_reducible refine(bG.calls k (a1.extract (Ag:Int).toNat a1.size) anc aCw aCx _ A54.out).mono ?_);rintro e w62 ⟨rfl,hb⟩;refine⟨_,rfl,?_⟩;replace mO:=ah.mk (dX (g:=H9) (o:=.cells #[.slice iW aH.length iX,.int .i64 aA] 25 (0,0)) (zp mO) hb);replace jL:=ah.mk (dX (g:=uU) (o:=.cells #[.string (⟨#[]⟩:ByteArray),.string (⟨#[]⟩:ByteArray),.bool false] 89 (0,0)) (zp jL) hb);replace nH:=ah.mk (dX (g:=He) (o:=.cells #[.string a8L,.string (⟨#[]⟩:ByteArray),.bool false] 89 (0,0)) (zp nH) hb);replace Vx:=ah.mk (dX (g:=an8) (o:=.cells #[.string a8L,.string an4,.bool an5] 89 (0,0)) (zp Vx) hb);replace HB:=ah.mk (ai (zb HB) hb);(try clear hb);obtain⟨auG,auH,auI,auJ,auK,auL⟩:=c3 nH;have aLz:=oD.out;have aLA:=ow.out;obtain⟨auM,auN,auO,auP,auQ,auR⟩:=c3 jL))
      refine bodyPost_ret (fJ rfl _ _ uU 89 #[.string a8L,.string anc,.bool false] (0,0) _ rfl (zp jL) Tryz.underlying89 rfl (by kernel_rfl)) rfl ?_
      exact⟨ze,zb HB⟩
     ·rw[if_neg c53]at H
      exact absurd H (by simp)
    ·skip
     exact absurd H (by simp)
   ·replace c51:=Bool.eq_false_iff.mpr c51
    subst c51
    rw[if_neg (show ¬(false=true) by decide)]at H
    simp only[Option.some.injEq,Prod.mk.injEq]at H
    obtain⟨rfl,rfl,rfl,rfl,rfl⟩:=H
    have aLB:=oD.out
    have aLC:=ow.out
    have aLD:=qo.out
    have aLE:=qp.out
    have aLF:=BL.out
    have aLG:=BM.out
    obtain⟨auS,auT,auU,auV,auW,auX⟩:=c3 jL
    go_wp2
    refine bodyPost_ret (fJ rfl _ _ uU 89 #[.string (⟨#[]⟩:ByteArray),.string (⟨#[]⟩:ByteArray),.bool false] (0,0) _ rfl (zp jL) Tryz.underlying89 rfl (by kernel_rfl)) rfl ?_
    exact⟨ze,zb HB⟩
 ·replace c8:=Bool.eq_false_iff.mpr c8
  subst c8
  rw[if_neg (show ¬(false=true) by decide)]at H
  simp only[Option.some.injEq,Prod.mk.injEq]at H
  obtain⟨rfl,rfl,rfl,rfl,rfl⟩:=H
  have aLH:=oD.out
  have aLI:=ow.out
  obtain⟨auY,auZ,av0,av1,av2,av3⟩:=c3 jL
  go_wp2
  refine bodyPost_ret (fJ rfl _ _ uU 89 #[.string (⟨#[]⟩:ByteArray),.string (⟨#[]⟩:ByteArray),.bool false] (0,0) _ rfl (zp jL) Tryz.underlying89 rfl (by kernel_rfl)) rfl ?_
  exact⟨ze,zb HB⟩
end Go.Proofs.YtokblgdgpnakpaaGreat.PFnEndLess
