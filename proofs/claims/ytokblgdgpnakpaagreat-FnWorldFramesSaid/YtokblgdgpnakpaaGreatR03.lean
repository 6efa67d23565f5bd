/- FnWorldFrames holds: part 3 of a proof that the given program meets it (printed texts and walks of our own, made short by a program). No condition. -/
import Derived.Test.YtokblgdgpnakpaaGreatR02
set_option linter.unusedVariables false
set_option linter.unusedSimpArgs false
set_option maxHeartbeats 8000000
set_option maxRecDepth 100000
namespace Go.Proofs.YtokblgdgpnakpaaGreat.PFnEndLess
open Go.RowKit Go.Proofs.YtokblgdgpnakpaaGreatW.PrintWords Go.Proofs.YtokblgdgpnakpaaGreatW.PrintLast Go.Proofs.YtokblgdgpnakpaaGreatW.PrintMore Go.Proofs.YtokblgdgpnakpaaGreat.Lm
attribute [local go_sem] bA bn bV bW aW aV bE bF
def dV.f(k:Nat)(aH:List (bf))(aA:Int)(j6:ByteArray)(iO:ByteArray)(mh:Bool):Option ((List (bf))×Int):=(some (([(⟨j6,iO,false⟩:bf)]:List (bf)):List (bf))).bind fun HZ=>(if HZ.length+aH.length<3518437208883 then((dM.f k (HZ++aH) aA).bind fun wD=>(some (wD.1,wD.2)))else(none))
theorem dV.mono:∀a0 a1 a2 a3 a4 k,gM (dV.f k a0 a1 a2 a3 a4) (dV.f (k+1) a0 a1 a2 a3 a4):=by
 intro a0 a1 a2 a3 a4 k
 unfold dV.f
 have m0:=@dM.mono
 exact zm
def dV.T2:Bool×List (List Nat×List Nat):=(true,[([],[]),([0],[0]),([],[]),([2],[2]),([1,3],[1,3]),([],[]),([5],[5]),([4,6],[4,6]),([7,4],[7]),([8,8,0,1,2,3,4,5,6,7,8],[8])])
def dV.B2:List Nat:=[0,1,0,4,15,0,32,127,255,511]
theorem dV.tab2:jG .any (opsOf Tryz.f73 2)=dV.T2:=by kernel_rfl
theorem dV.bits2:fQ dV.T2.2 dV.B2=true:=by kernel_rfl
theorem dV.calls(k:Nat)(j4:Option Addr)(j5:Nat)(aH:List (bf))(aA:Int)(j6:ByteArray)(iO:ByteArray)(mh:Bool)(r1:List (bf))(r2:Int)(w:World)(kT:Kd.C iH w j4 aH.length aH)(kU:aH.length≤j5)(h:dV.f k aH aA j6 iO mh=some (r1,r2)):
 Calls Tryz.prog 73 #[.agg #[.slice j4 aH.length j5,.int .i64 aA],.agg #[.string j6,.string iO,.bool mh]] w fun e w'=>∃vM:Value,e= .returned (.agg #[vM,.int .i64 r2])∧Kd.R iH 89 w' w.heap.size (fun _=>True) vM r1∧Below w.heap.size w w':=by
 have Ab:=Tryz.underlying25
 have sN:=Tryz.underlying89
 have lM:=ah.mk kT
 have pO:=ah.mk kU
 clear kT kU
 have HB:=ah.mk (Below.refl w.heap.size w)
 have H:((some (([(⟨j6,iO,false⟩:bf)]:List (bf)):List (bf))).bind fun HZ=>(if HZ.length+aH.length<3518437208883 then((dM.f k (HZ++aH) aA).bind fun wD=>(some (wD.1,wD.2)))else(none)))=some (r1,r2):=h
 clear h
 obtain⟨HZ,O6⟩:∃y_:List (bf),y_=(([(⟨j6,iO,false⟩:bf)]:List (bf))):=⟨_,rfl⟩
 replace H:(if HZ.length+aH.length<3518437208883 then((dM.f k (HZ++aH) aA).bind fun wD=>(some (wD.1,wD.2)))else(none))=some (r1,r2):=by first|(rw[O6];with_reducible exact H)|(have fH:=(Option.bind_some _ _).symm.trans H;rw[O6];with_reducible exact fH)|(have fH:=(Option.bind_some _ _).symm.trans H;with_reducible exact fH)|with_reducible exact H|(rw[O6];exact H)|exact H
 have acM:=ah.mk O6
 clear O6
 replace H:=sp H
 rcases H with⟨c3,H⟩|⟨c3,H⟩
 ·skip
  have afS:=ah.mk c3
  clear c3
  obtain⟨afT,O7⟩:∃y_:List (bf),y_=(HZ++aH):=⟨_,rfl⟩
  replace H:((dM.f k afT aA).bind fun wD=>(some (wD.1,wD.2)))=some (r1,r2):=by first|(rw[O7];with_reducible exact H)|(have fH:=(Option.bind_some _ _).symm.trans H;rw[O7];with_reducible exact fH)|(have fH:=(Option.bind_some _ _).symm.trans H;with_reducible exact fH)|with_reducible exact H|(rw[O7];exact H)|exact H
  have amS:=ah.mk O7
  clear O7
  obtain⟨⟨amT,amU⟩,A4,H⟩:=ob H
  (try dsimp only at H)
  simp only[Option.some.injEq,Prod.mk.injEq]at H
  obtain⟨rfl,rfl⟩:=H
  go_enter Tryz.func73,Tryz.ntmps73
  try go_wp2_with (first|((with_reducible refine gd 2 rfl ?_);refine bx (N:=2) (cs:=#[.slice j4 aH.length j5,.int .i64 aA]) (t:=25) ?_;intro amV hg w5 hbox hb;have mo:=ah.mk (hbox);have amW:=gw HB hg;have aMl:=amW;replace HB:=ah.mk (ai (zb HB) hb);clear hb hbox hg)|((with_reducible refine gd 3 rfl ?_);refine bx (N:=3) (cs:=#[.string j6,.string iO,.bool mh]) (t:=89) ?_;intro G9 hg w6 hbox hb;have mq:=ah.mk (hbox);have amX:=gw HB hg;have aMm:=amX;replace HB:=ah.mk (ai (zb HB) hb);obtain⟨XD,XE⟩:=nb mo hg;replace mo:=kb mo hb;clear hb hbox hg)|((with_reducible refine gd 4 rfl ?_);refine bx (N:=4) (cs:=#[.slice none 0 0,.int .i64 0]) (t:=25) ?_;intro rX hg w7 hbox hb;have nV:=ah.mk (hbox);have amY:=gw HB hg;have aMn:=amY;replace HB:=ah.mk (ai (zb HB) hb);obtain⟨qz,Iy⟩:=nb mo hg;replace mo:=kb mo hb;obtain⟨mO,BS⟩:=nb mq hg;replace mq:=kb mq hb;clear hb hbox hg;have alk:=XE.out;have alm:=XD.out;have amZ:=mO.out;have an0:=BS.out;obtain⟨EQ,ER,Uz,ES,EU,UA⟩:=c3 mq))
  have tQ:ah ((w7.setCell ⟨G9,2,none⟩ (.bool false)).heap[amV]?=some (.cells #[.slice j4 aH.length j5,.int .i64 aA] 25 (0,0))):=⟨zp mo⟩
  have tT:ah ((w7.setCell ⟨G9,2,none⟩ (.bool false)).heap[G9]?=some (.cells #[.string j6,.string iO,.bool false] 89 (0,0))):=⟨zp mq⟩
  have vz:ah ((w7.setCell ⟨G9,2,none⟩ (.bool false)).heap[rX]?=some (.cells #[.slice none 0 0,.int .i64 0] 25 (0,0))):=⟨zp nV⟩
  have vB:ah (Below w.heap.size w (w7.setCell ⟨G9,2,none⟩ (.bool false))):=⟨zb HB⟩
  (try clear mo)
  (try clear mq)
  (try clear nV)
  (try clear HB)
  generalize(w7.setCell ⟨G9,2,none⟩ (.bool false))=w11 at tQ tT vz vB ⊢
  have mo:=tQ
  have mq:=tT
  have nV:=vz
  have HB:=vB
  clear tQ tT vz vB
  replace mo:=ah.mk (dw mo.out)
  replace mq:=ah.mk (dw mq.out)
  replace nV:=ah.mk (dw nV.out)
  replace HB:=ah.mk (dF HB.out)
  refine st 10 (an (b3 mq) (b2 mo)) (fun hHeld=>?_);refine bK dV.tab2 dV.bits2 (fun HT_ HW_=>?_)
  generalize w11.drew=Xu at mo mq nV HB hHeld ⊢
  refine pu 2 (some 8) (bm 10 4) rfl rfl ?_
  refine pu 5 (some 11) (bm 10 36) rfl rfl ?_
  refine tk 0 (some 6) (bm 10 37) rfl rfl hHeld ?_
  refine tk 3 (some 9) (bm 10 45) rfl rfl hHeld ?_
  refine tk 6 (some 12) (bm 10 109) rfl rfl hHeld ?_
  refine iN (i:=1) (N:=some 7) (bm 10 111) rfl rfl (eG HT_.out (by kernel_rfl)) (by decide) (fun K hK=>?_)
  refine Kd.R_lit_step iH _ 89 ?hg (N:=7) ?hd (xs:=([(⟨j6,iO,false⟩:bf)]:List (bf))) (inner:=[.string j6,.string iO,.bool false]) (ok:=fun _=>True) (okp:=fun _=>True) ?hr ?hp (fun _ hk=>hk) trivial (Below.refl _ _) (Nat.le_refl _) (by simp) ?_;(case hd=>rfl);(case hg=>rfl);(case hr=>first|(go_simp;done)|(go_simp;rfl));(case hp=>exact(dm.c3 (show Kd.M iH _ _ _ (⟨j6,iO,false⟩:bf) [.string j6,.string iO,.bool false]from(lK _ _ _ (⟨j6,iO,false⟩:bf))) (dm.none _ _)))
  intro aDe w13 a18 hb nL fM
  clear nL fM
  (first|rw[←acM.out]at a18|(simp only[Int.reduceToNat]at a18;rw[←acM.out]at a18))
  have O8:=ah.mk (Kd.R_lower (Kd.R_newB a18 (zk mq)) (aJ (zb HB)))
  replace mo:=kb mo hb
  replace mq:=kb mq hb
  replace nV:=kb nV hb
  replace HB:=ah.mk (ai (zb HB) hb)
  clear hb a18
  refine hK.out _ _ (an (b3 mq) (b2 mo)) (fun hHeld=>?_)
  clear hK K
  refine nm ?_
  refine iN (i:=4) (N:=some 10) (bm 10 127) rfl rfl (eG HT_.out (by kernel_rfl)) (by decide) (fun K hK=>?_)
  refine Kd.R_append_rows_step iH (w0:=w) w.heap.size (by rfl) (.tmp 7) (.tmp 9) 23 89 (.agg #[(.string ⟨#[]⟩),(.string ⟨#[]⟩),(.bool false)]) 40 rfl Tryz.underlying23 yL rfl (by decide) (by omega) aDe HZ aH _ _ _ (fun k_=>k_≠G9) (fun _=>False) rfl rfl ?aO ?aR (fun _ _ h=>h) (fun _ h=>h.elim) ?aF ?aB ?aS ?aL ?_
  (case aR=>exact zc (Kd.C_below lM.out HB.out))
  (case aB=>exact(zb HB))
  (case aF=>exact(fun k_ hk=>Kd.freshB (zk mq) k_ hk))
  (case aO=>exact(zq (Kd.R_mono O8.out (fun _ hk=>hk.2))))
  (case aS=>exact(aJ (zb HB)))
  (case aL=>have:=afS.out;omega)
  intro aQK w15 ho hb hg hat
  rw[←amS.out]at ho
  replace mo:=ah.mk (jL (zk mo) hg (Kd.R_ne O8.out mo.out (by decide)))
  replace mq:=ah.mk (jL (zk mq) hg (Kd.R_away O8.out (fun _ hk=>hk.2)))
  replace nV:=ah.mk (jL (zk nV) hg (Kd.R_ne O8.out nV.out (by decide)))
  replace HB:=ah.mk (hb)
  have Iz:=ah.mk (ho)
  clear O8
  clear ho hb hg hat
  obtain⟨a96,a97,a0U⟩:=Kd.R_slice Iz.out
  (first|subst a0U|(injection a0U with Dq NG Dr;have NH:=Dq.symm;have NI:=Dr.symm;clear Dq NG Dr;subst NH;subst NI))
  refine hK.out _ _ (an (b3 mq) (b2 mo)) (fun hHeld=>?_)
  clear hK K
  refine nm ?_
  refine pu 7 (some 13) (bm 10 255) rfl rfl ?_
  refine iN (i:=8) (N:=some 14) (bm 10 511) rfl rfl (eG HT_.out (by kernel_rfl)) (by decide) (fun K hK=>?_)
  refine gs Tryz.func84 #[.agg #[.slice a96 afT.length a97,.int .i64 aA]] ?_
  with_reducible refine(dM.calls k _ _ afT aA amT amU _ ?aN ?aQ A4.out).mono ?_
  (case aN=>exact zc (Kd.R_reads' Iz.out).2.2)
  (case aQ=>exact(Kd.R_reads' Iz.out).2.1)
  rintro e w17 ⟨aQL,rfl,ho0,hb⟩
  refine⟨_,rfl,?_⟩
  have acN:=ah.mk (Kd.R_lower (Kd.R_newB (Kd.R_new' ho0 (Kd.R_lt (zr Iz))) (zk mq)) (aJ (zb HB)))
  replace Iz:=ah.mk (Kd.R_elder' (zr Iz) (Kd.R_base ho0) hb)
  replace mo:=kb mo hb
  replace mq:=kb mq hb
  replace nV:=kb nV hb
  replace HB:=ah.mk (ai (zb HB) hb)
  (try clear hb)
  (try clear ho0)
  obtain⟨E5,BU,O9⟩:=Kd.R_slice acN.out
  (first|subst O9|(injection O9 with Dq NG Dr;have NH:=Dq.symm;have NI:=Dr.symm;clear Dq NG Dr;subst NH;subst NI))
  refine hK.out _ _ (an (b3 mq) (b2 mo)) (fun hHeld=>?_)
  clear hK K
  refine nm ?_
  refine iN (i:=9) (N:=none) (bm 10 1023) rfl rfl (eG HT_.out (by kernel_rfl)) (by decide) (fun K hK=>?_)
  have aQM:w17.cell? ⟨rX,0,none⟩=some (.slice none 0 0):=(ak nV.out 0).trans rfl
  have aMo:=aj nV.out 0
  have av6:=qz.out
  have av7:=mO.out
  have av8:=Iy.out
  have av9:=BS.out
  have aQN:w17.cell? ⟨rX,1,none⟩=some (.int .i64 0):=(ak nV.out 1).trans rfl
  have aMp:=aj nV.out 1
  have ava:=qz.out
  have avb:=mO.out
  have avc:=Iy.out
  have avd:=BS.out
  refine oF (w1:=?_) (by rfl) rfl ?_ ?_
  rotate_left
  ·go_simp
   rfl
  refine hK.out _ _ (an ⟨((cell_far (p:=⟨rX,_,none⟩) mO.out _).trans (((cell_far (p:=⟨rX,_,none⟩) mO.out _).trans (hHeld.1.1)))),((cell_far (p:=⟨rX,_,none⟩) mO.out _).trans (((cell_far (p:=⟨rX,_,none⟩) mO.out _).trans (hHeld.1.2.1)))),((cell_far (p:=⟨rX,_,none⟩) mO.out _).trans (((cell_far (p:=⟨rX,_,none⟩) mO.out _).trans (hHeld.1.2.2))))⟩ ⟨((cell_far (p:=⟨rX,_,none⟩) qz.out _).trans (((cell_far (p:=⟨rX,_,none⟩) qz.out _).trans (hHeld.2.1)))),((cell_far (p:=⟨rX,_,none⟩) qz.out _).trans (((cell_far (p:=⟨rX,_,none⟩) qz.out _).trans (hHeld.2.2))))⟩) (fun hHeld=>?_)
  clear hK K
  refine lq (jC HT_.out (by kernel_rfl)) ?_
  try go_wp2
  refine bodyPost_ret (results_cell_row rfl _ _ rX 25 #[.slice E5 amT.length BU,.int .i64 amU] (0,0) _ rfl (zp nV) Tryz.underlying25 rfl (by kernel_rfl)) rfl ?_
  exact⟨_,ze,(Kd.R_mono (qj (Kd.R_types acN.out nV.out (by decide))) (fun _ hk=>trivial)),zb HB⟩
 ·skip
  exact absurd H (by simp)
def jT.f:Option ((List (bf))):=some (([(⟨(⟨#[58,112,97,116,104]⟩:ByteArray),(⟨#[]⟩:ByteArray),false⟩:bf),(⟨(⟨#[58,115,116,97,116,117,115]⟩:ByteArray),(⟨#[48]⟩:ByteArray),false⟩:bf),(⟨(⟨#[58,115,116,97,116,117,115]⟩:ByteArray),(⟨#[49,50]⟩:ByteArray),false⟩:bf),(⟨(⟨#[107,105,110,100]⟩:ByteArray),(⟨#[116,101,120,116]⟩:ByteArray),false⟩:bf),(⟨(⟨#[115,105,122,101]⟩:ByteArray),(⟨#[]⟩:ByteArray),false⟩:bf),(⟨(⟨#[116,101]⟩:ByteArray),(⟨#[116,114,97,105,108,101,114,115]⟩:ByteArray),false⟩:bf)]:List (bf)))
theorem jT.calls(r:List (bf))(w:World)(h:jT.f=some r):
 Calls Tryz.prog 113 #[] w fun e w'=>∃vM:Value,e= .returned (vM)∧Kd.R iH 89 w' w.heap.size (fun _=>True) vM r∧Below w.heap.size w w':=by
 have sN:=Tryz.underlying89
 have HB:=ah.mk (Below.refl w.heap.size w)
 have H:(some (([(⟨(⟨#[58,112,97,116,104]⟩:ByteArray),(⟨#[]⟩:ByteArray),false⟩:bf),(⟨(⟨#[58,115,116,97,116,117,115]⟩:ByteArray),(⟨#[48]⟩:ByteArray),false⟩:bf),(⟨(⟨#[58,115,116,97,116,117,115]⟩:ByteArray),(⟨#[49,50]⟩:ByteArray),false⟩:bf),(⟨(⟨#[107,105,110,100]⟩:ByteArray),(⟨#[116,101,120,116]⟩:ByteArray),false⟩:bf),(⟨(⟨#[115,105,122,101]⟩:ByteArray),(⟨#[]⟩:ByteArray),false⟩:bf),(⟨(⟨#[116,101]⟩:ByteArray),(⟨#[116,114,97,105,108,101,114,115]⟩:ByteArray),false⟩:bf)]:List (bf))))=some r:=h
 clear h
 obtain⟨aDf,Oa⟩:∃y_:List (bf),y_=(([(⟨(⟨#[58,112,97,116,104]⟩:ByteArray),(⟨#[]⟩:ByteArray),false⟩:bf),(⟨(⟨#[58,115,116,97,116,117,115]⟩:ByteArray),(⟨#[48]⟩:ByteArray),false⟩:bf),(⟨(⟨#[58,115,116,97,116,117,115]⟩:ByteArray),(⟨#[49,50]⟩:ByteArray),false⟩:bf),(⟨(⟨#[107,105,110,100]⟩:ByteArray),(⟨#[116,101,120,116]⟩:ByteArray),false⟩:bf),(⟨(⟨#[115,105,122,101]⟩:ByteArray),(⟨#[]⟩:ByteArray),false⟩:bf),(⟨(⟨#[116,101]⟩:ByteArray),(⟨#[116,114,97,105,108,101,114,115]⟩:ByteArray),false⟩:bf)]:List (bf))):=⟨_,rfl⟩
 replace H:(some aDf)=some r:=by first|(rw[Oa];with_reducible exact H)|(have fH:=(Option.bind_some _ _).symm.trans H;rw[Oa];with_reducible exact fH)|(have fH:=(Option.bind_some _ _).symm.trans H;with_reducible exact fH)|with_reducible exact H|(rw[Oa];exact H)|exact H
 have acO:=ah.mk Oa
 clear Oa
 obtain rfl:=Option.some.inj H
 go_enter Tryz.func113,Tryz.ntmps113
 go_wp2_with (first|((with_reducible refine gd 7 rfl ?_);refine Kd.R_lit iH _ 89 ?hg (N:=7) ?hd (xs:=([(⟨(⟨#[58,112,97,116,104]⟩:ByteArray),(⟨#[]⟩:ByteArray),false⟩:bf),(⟨(⟨#[58,115,116,97,116,117,115]⟩:ByteArray),(⟨#[48]⟩:ByteArray),false⟩:bf),(⟨(⟨#[58,115,116,97,116,117,115]⟩:ByteArray),(⟨#[49,50]⟩:ByteArray),false⟩:bf),(⟨(⟨#[107,105,110,100]⟩:ByteArray),(⟨#[116,101,120,116]⟩:ByteArray),false⟩:bf),(⟨(⟨#[115,105,122,101]⟩:ByteArray),(⟨#[]⟩:ByteArray),false⟩:bf),(⟨(⟨#[116,101]⟩:ByteArray),(⟨#[116,114,97,105,108,101,114,115]⟩:ByteArray),false⟩:bf)]:List (bf))) (inner:=[.string (⟨#[58,112,97,116,104]⟩:ByteArray),.string (⟨#[]⟩:ByteArray),.bool false,.string (⟨#[58,115,116,97,116,117,115]⟩:ByteArray),.string (⟨#[48]⟩:ByteArray),.bool false,.string (⟨#[58,115,116,97,116,117,115]⟩:ByteArray),.string (⟨#[49,50]⟩:ByteArray),.bool false,.string (⟨#[107,105,110,100]⟩:ByteArray),.string (⟨#[116,101,120,116]⟩:ByteArray),.bool false,.string (⟨#[115,105,122,101]⟩:ByteArray),.string (⟨#[]⟩:ByteArray),.bool false,.string (⟨#[116,101]⟩:ByteArray),.string (⟨#[116,114,97,105,108,101,114,115]⟩:ByteArray),.bool false]) (ok:=fun _=>True) (okp:=fun _=>True) ?hr ?hp (fun _ hk=>hk) trivial (Below.refl _ _) (Nat.le_refl _) (by simp) ?_;(case hd=>rfl);(case hg=>rfl);(case hr=>first|(go_simp;done)|(go_simp;rfl));(case hp=>exact(dm.c3 (show Kd.M iH _ _ _ (⟨(⟨#[58,112,97,116,104]⟩:ByteArray),(⟨#[]⟩:ByteArray),false⟩:bf) [.string (⟨#[58,112,97,116,104]⟩:ByteArray),.string (⟨#[]⟩:ByteArray),.bool false]from(lK _ _ _ (⟨(⟨#[58,112,97,116,104]⟩:ByteArray),(⟨#[]⟩:ByteArray),false⟩:bf))) (dm.c3 (show Kd.M iH _ _ _ (⟨(⟨#[58,115,116,97,116,117,115]⟩:ByteArray),(⟨#[48]⟩:ByteArray),false⟩:bf) [.string (⟨#[58,115,116,97,116,117,115]⟩:ByteArray),.string (⟨#[48]⟩:ByteArray),.bool false]from(lK _ _ _ (⟨(⟨#[58,115,116,97,116,117,115]⟩:ByteArray),(⟨#[48]⟩:ByteArray),false⟩:bf))) (dm.c3 (show Kd.M iH _ _ _ (⟨(⟨#[58,115,116,97,116,117,115]⟩:ByteArray),(⟨#[49,50]⟩:ByteArray),false⟩:bf) [.string (⟨#[58,115,116,97,116,117,115]⟩:ByteArray),.string (⟨#[49,50]⟩:ByteArray),.bool false]from(lK _ _ _ (⟨(⟨#[58,115,116,97,116,117,115]⟩:ByteArray),(⟨#[49,50]⟩:ByteArray),false⟩:bf))) (dm.c3 (show Kd.M iH _ _ _ (⟨(⟨#[107,105,110,100]⟩:ByteArray),(⟨#[116,101,120,116]⟩:ByteArray),false⟩:bf) [.string (⟨#[107,105,110,100]⟩:ByteArray),.string (⟨#[116,101,120,116]⟩:ByteArray),.bool false]from(lK _ _ _ (⟨(⟨#[107,105,110,100]⟩:ByteArray),(⟨#[116,101,120,116]⟩:ByteArray),false⟩:bf))) (dm.c3 (show Kd.M iH _ _ _ (⟨(⟨#[115,105,122,101]⟩:ByteArray),(⟨#[]⟩:ByteArray),false⟩:bf) [.string (⟨#[115,105,122,101]⟩:ByteArray),.string (⟨#[]⟩:ByteArray),.bool false]from(lK _ _ _ (⟨(⟨#[115,105,122,101]⟩:ByteArray),(⟨#[]⟩:ByteArray),false⟩:bf))) (dm.c3 (show Kd.M iH _ _ _ (⟨(⟨#[116,101]⟩:ByteArray),(⟨#[116,114,97,105,108,101,114,115]⟩:ByteArray),false⟩:bf) [.string (⟨#[116,101]⟩:ByteArray),.string (⟨#[116,114,97,105,108,101,114,115]⟩:ByteArray),.bool false]from(lK _ _ _ (⟨(⟨#[116,101]⟩:ByteArray),(⟨#[116,114,97,105,108,101,114,115]⟩:ByteArray),false⟩:bf))) (dm.none _ _))))))));intro aQO w1 ho2 hb nL fM;clear nL fM;(first|rw[←acO.out]at ho2|(simp only[Int.reduceToNat]at ho2;rw[←acO.out]at ho2));have an1:=ah.mk (Kd.R_lower ho2 (aJ (zb HB)));replace HB:=ah.mk (ai (zb HB) hb);clear hb ho2))
 go_ret
 exact⟨_,ze,zq (an1.out),zb HB⟩
def ji.f(aH:List (bf))(aA:Int):Option ((List (bf))):=(jT.f).bind fun KX=>(if KX.length+aH.length<3518437208883 then(some (KX++aH))else(none))
theorem ji.calls(j4:Option Addr)(j5:Nat)(aH:List (bf))(aA:Int)(r:List (bf))(w:World)(kT:Kd.C iH w j4 aH.length aH)(kU:aH.length≤j5)(h:ji.f aH aA=some r):
 Calls Tryz.prog 108 #[.agg #[.slice j4 aH.length j5,.int .i64 aA]] w fun e w'=>∃vM:Value,e= .returned (vM)∧Kd.R iH 89 w' w.heap.size (fun _=>True) vM r∧Below w.heap.size w w':=by
 have Ab:=Tryz.underlying25
 have lM:=ah.mk kT
 have pO:=ah.mk kU
 clear kT kU
 have HB:=ah.mk (Below.refl w.heap.size w)
 have H:((jT.f).bind fun KX=>(if KX.length+aH.length<3518437208883 then(some (KX++aH))else(none)))=some r:=h
 clear h
 obtain⟨KX,A2,H⟩:=ob H
 (try dsimp only at H)
 replace H:=sp H
 rcases H with⟨c3,H⟩|⟨c3,H⟩
 ·skip
  have afS:=ah.mk c3
  clear c3
  obtain⟨aDg,Ob⟩:∃y_:List (bf),y_=(KX++aH):=⟨_,rfl⟩
  replace H:(some aDg)=some r:=by first|(rw[Ob];with_reducible exact H)|(have fH:=(Option.bind_some _ _).symm.trans H;rw[Ob];with_reducible exact fH)|(have fH:=(Option.bind_some _ _).symm.trans H;with_reducible exact fH)|with_reducible exact H|(rw[Ob];exact H)|exact H
  have an2:=ah.mk Ob
  clear Ob
  obtain rfl:=Option.some.inj H
  go_enter Tryz.func108,Tryz.ntmps108
  try go_wp2_with (first|((with_reducible refine gd 1 rfl ?_);refine bx (N:=1) (cs:=#[.slice j4 aH.length j5,.int .i64 aA]) (t:=25) ?_;intro aMq hg w4 hbox hb;have wE:=ah.mk (hbox);have an3:=gw HB hg;have aMr:=an3;replace HB:=ah.mk (ai (zb HB) hb);clear hb hbox hg))
  replace wE:=ah.mk (dw wE.out)
  replace HB:=ah.mk (dF HB.out)
  refine st 5 (b2 wE) (fun hHeld=>?_)
  generalize w4.drew=w5 at wE HB hHeld ⊢
  refine pu 1 (some 4) (bm 5 2) rfl rfl ?_
  refine tk 2 (some 5) (bm 5 6) rfl rfl hHeld ?_
  refine iN (i:=0) (N:=some 3) (bm 5 7) rfl rfl (by kernel_rfl) (by decide) (fun K hK=>?_)
  refine gs Tryz.func113 #[] ?_
  with_reducible refine(jT.calls KX _ A2.out).mono ?_
  rintro e w6 ⟨aDh,rfl,ho0,hb⟩
  refine⟨_,rfl,?_⟩
  have a19:=ah.mk (Kd.R_lower ho0 (aJ (zb HB)))
  replace wE:=kb wE hb
  replace HB:=ah.mk (ai (zb HB) hb)
  (try clear hb)
  (try clear ho0)
  refine hK.out _ _ (b2 wE) (fun hHeld=>?_)
  clear hK K
  refine nm ?_
  refine iN (i:=3) (N:=some 6) (bm 5 15) rfl rfl (by kernel_rfl) (by decide) (fun K hK=>?_)
  refine Kd.R_append_rows_step iH (w0:=w) w.heap.size (by rfl) (.tmp 3) (.tmp 5) 23 89 (.agg #[(.string ⟨#[]⟩),(.string ⟨#[]⟩),(.bool false)]) 40 rfl Tryz.underlying23 yL rfl (by decide) (by omega) aDh KX aH _ _ _ (fun _=>True) (fun _=>False) rfl rfl ?aO ?aR (fun _ _ h=>h) (fun _ h=>h.elim) ?aF ?aB ?aS ?aL ?_
  (case aR=>exact zc (Kd.C_below lM.out HB.out))
  (case aB=>exact(zb HB))
  (case aF=>exact(fun _ _=>trivial))
  (case aO=>exact(zr a19))
  (case aS=>exact(aJ (zb HB)))
  (case aL=>have:=afS.out;omega)
  intro aQP w7 ho hb hg hat
  rw[←an2.out]at ho
  replace wE:=ah.mk (jL (zk wE) hg (Kd.R_ne a19.out wE.out (by decide)))
  replace HB:=ah.mk (hb)
  have an4:=ah.mk (ho)
  clear a19
  clear ho hb hg hat
  refine hK.out _ _ (b2 wE) (fun hHeld=>?_)
  clear hK K
  refine nm ?_
  refine pu 4 (some 2) (bm 5 31) rfl rfl ?_
  refine lq (by kernel_rfl) ?_
  try go_wp2
  go_ret
  exact⟨_,ze,zq (an4.out),zb HB⟩
 ·skip
  exact absurd H (by simp)
mutual
def bI.l0:Nat→List (bf)→Int→Int→ByteArray→ByteArray→Bool→Option (Int×Bool)
 |0,_,_,_,_,_,_=>none
 |k+1,x6,x7,x8,rY,uR,xH=>if x8≥0 then(if 0≤x8 then(if x8<(x6.length:Int)then(if((aU x6 x8).f0).toList=rY.toList then(bI.l0 k x6 (wrap64 (x8+1)) (wrap64 (x8-1)) rY uR xH)else(bI.l0 k x6 x7 (wrap64 (x8-1)) rY uR xH))else(none))else(none))else(bI.l1 k x6 x7 0 rY uR xH)
def bI.l1:Nat→List (bf)→Int→Int→ByteArray→ByteArray→Bool→Option (Int×Bool)
 |0,_,_,_,_,_,_=>none
 |k+1,x6,x7,x9,rY,uR,xH=>if x9<(x6.length:Int)then(if 0≤x9 then(if((aU x6 x9).f0).toList=rY.toList then(if((aU x6 x9).f1).toList=uR.toList then(some (wrap64 (x9+1),true))else(bI.l1 k x6 x7 (wrap64 (x9+1)) rY uR xH))else(bI.l1 k x6 x7 (wrap64 (x9+1)) rY uR xH))else(none))else(some (x7,false))
end
def bI.f(k:Nat)(aH:List (bf))(aA:Int)(j6:ByteArray)(iO:ByteArray)(mh:Bool):Option (Int×Bool):=(ji.f aH aA).bind fun lH=>(bI.l0 k lH 0 (wrap64 ((lH.length:Int)-1)) j6 iO mh)
theorem bI.mono_l:∀k,(∀y0 y1 y2 y3 y4 y5,gM (bI.l0 k y0 y1 y2 y3 y4 y5) (bI.l0 (k+1) y0 y1 y2 y3 y4 y5))∧(∀y0 y1 y2 y3 y4 y5,gM (bI.l1 k y0 y1 y2 y3 y4 y5) (bI.l1 (k+1) y0 y1 y2 y3 y4 y5))
 |0=>⟨fun _ _ _ _ _ _ r h=>by simp[bI.l0]at h,fun _ _ _ _ _ _ r h=>by simp[bI.l1]at h⟩
 |k+1=>by
  obtain⟨mW,ih1⟩:=bI.mono_l k
  refine⟨?_,?_⟩
  ·intro y0 y1 y2 y3 y4 y5
   unfold bI.l0
   exact zm
  ·intro y0 y1 y2 y3 y4 y5
   unfold bI.l1
   exact zm
theorem bI.mono:∀a0 a1 a2 a3 a4 k,gM (bI.f k a0 a1 a2 a3 a4) (bI.f (k+1) a0 a1 a2 a3 a4):=by
 intro a0 a1 a2 a3 a4 k
 obtain⟨mW,ih1⟩:=bI.mono_l k
 unfold bI.f
 exact zm
theorem bI.calls(k:Nat)(j4:Option Addr)(j5:Nat)(aH:List (bf))(aA:Int)(j6:ByteArray)(iO:ByteArray)(mh:Bool)(r1:Int)(r2:Bool)(w:World)(kT:Kd.C iH w j4 aH.length aH)(kU:aH.length≤j5)(h:bI.f k aH aA j6 iO mh=some (r1,r2)):
 Calls Tryz.prog 102 #[.agg #[.slice j4 aH.length j5,.int .i64 aA],.agg #[.string j6,.string iO,.bool mh]] w fun e w'=>e= .returned (.tuple #[.int .i64 r1,.bool r2])∧Below w.heap.size w w':=by
 have Ab:=Tryz.underlying25
 have sN:=Tryz.underlying89
 have lM:=ah.mk kT
 have pO:=ah.mk kU
 clear kT kU
 have HB:=ah.mk (Below.refl w.heap.size w)
 have H:((ji.f aH aA).bind fun lH=>(bI.l0 k lH 0 (wrap64 ((lH.length:Int)-1)) j6 iO mh))=some (r1,r2):=h
 clear h
 obtain⟨lH,A3,H⟩:=ob H
 (try dsimp only at H)
 have H':=ah.mk H
 clear H
 go_enter Tryz.func102,Tryz.ntmps102
 go_wp2_with (first|((with_reducible refine gd 2 rfl ?_);refine bx (N:=2) (cs:=#[.slice j4 aH.length j5,.int .i64 aA]) (t:=25) ?_;intro Vv hg w4 hbox hb;have kr:=ah.mk (hbox);have Oc:=gw HB hg;have acP:=Oc;replace HB:=ah.mk (ai (zb HB) hb);clear hb hbox hg)|((with_reducible refine gd 3 rfl ?_);refine bx (N:=3) (cs:=#[.string j6,.string iO,.bool mh]) (t:=89) ?_;intro IA hg w5 hbox hb;have mr:=ah.mk (hbox);have Od:=gw HB hg;have acQ:=Od;replace HB:=ah.mk (ai (zb HB) hb);obtain⟨mP,mQ⟩:=nb kr hg;replace kr:=kb kr hb;clear hb hbox hg;have an5:=mP.out;have an6:=mQ.out;obtain⟨yQ,yR,yS,yT⟩:=c2 kr)|(go_at_call 108;(with_reducible refine(ji.calls _ _ aH aA lH _ ?aN ?aQ A3.out).mono ?_);(case aN=>exact zc (Kd.C_below lM.out HB.out));(case aQ=>exact pO.out);rintro e w8 ⟨an7,rfl,ho0,hb⟩;have IB:=ah.mk (Kd.R_lower (Kd.R_newB ho0 (zk mr)) (aJ (zb HB)));replace kr:=kb kr hb;replace mr:=kb mr hb;replace HB:=ah.mk (ai (zb HB) hb);(try clear hb);(try clear ho0);obtain⟨Ao9,co9,eo9⟩:=Kd.R_slice IB.out;subst eo9))
 repeat(go_quiet (first|((with_reducible refine gd 2 rfl ?_);refine bx (N:=2) (cs:=#[.slice j4 aH.length j5,.int .i64 aA]) (t:=25) ?_;intro Vv hg w4 hbox hb;have kr:=ah.mk (hbox);have Oc:=gw HB hg;have acP:=Oc;replace HB:=ah.mk (ai (zb HB) hb);clear hb hbox hg)|((with_reducible refine gd 3 rfl ?_);refine bx (N:=3) (cs:=#[.string j6,.string iO,.bool mh]) (t:=89) ?_;intro IA hg w5 hbox hb;have mr:=ah.mk (hbox);have Od:=gw HB hg;have acQ:=Od;replace HB:=ah.mk (ai (zb HB) hb);obtain⟨mP,mQ⟩:=nb kr hg;replace kr:=kb kr hb;clear hb hbox hg;have an5:=mP.out;have an6:=mQ.out;obtain⟨yQ,yR,yS,yT⟩:=c2 kr)|(go_at_call 108;(with_reducible refine(ji.calls _ _ aH aA lH _ ?aN ?aQ A3.out).mono ?_);(case aN=>exact zc (Kd.C_below lM.out HB.out));(case aQ=>exact pO.out);rintro e w8 ⟨an7,rfl,ho0,hb⟩;have IB:=ah.mk (Kd.R_lower (Kd.R_newB ho0 (zk mr)) (aJ (zb HB)));replace kr:=kb kr hb;replace mr:=kb mr hb;replace HB:=ah.mk (ai (zb HB) hb);(try clear hb);(try clear ho0);obtain⟨Ao9,co9,eo9⟩:=Kd.R_slice IB.out;subst eo9));try go_wp2_with (first|((with_reducible refine gd 2 rfl ?_);refine bx (N:=2) (cs:=#[.slice j4 aH.length j5,.int .i64 aA]) (t:=25) ?_;intro Vv hg w4 hbox hb;have kr:=ah.mk (hbox);have Oc:=gw HB hg;have acP:=Oc;replace HB:=ah.mk (ai (zb HB) hb);clear hb hbox hg)|((with_reducible refine gd 3 rfl ?_);refine bx (N:=3) (cs:=#[.string j6,.string iO,.bool mh]) (t:=89) ?_;intro IA hg w5 hbox hb;have mr:=ah.mk (hbox);have Od:=gw HB hg;have acQ:=Od;replace HB:=ah.mk (ai (zb HB) hb);obtain⟨mP,mQ⟩:=nb kr hg;replace kr:=kb kr hb;clear hb hbox hg;have an5:=mP.out;have an6:=mQ.out;obtain⟨yQ,yR,yS,yT⟩:=c2 kr)|(go_at_call 108;(with_reducible refine(ji.calls _ _ aH aA lH _ ?aN ?aQ A3.out).mono ?_);(case aN=>exact zc (Kd.C_below lM.out HB.out));(case aQ=>exact pO.out);rintro e w8 ⟨an7,rfl,ho0,hb⟩;have IB:=ah.mk (Kd.R_lower (Kd.R_newB ho0 (zk mr)) (aJ (zb HB)));replace kr:=kb kr hb;replace mr:=kb mr hb;replace HB:=ah.mk (ai (zb HB) hb);(try clear hb);(try clear ho0);obtain⟨Ao9,co9,eo9⟩:=Kd.R_slice IB.out;subst eo9)))
 go_loopg [7,8] k (fun kq v7 v8 w'=>∃(fE:Int)(mD:Int),v7= .int .i64 fE∧v8= .int .i64 mD∧ah (bI.l0 kq lH fE mD j6 iO mh=some (r1,r2))∧ah (kq≤k)∧ah (Kd.R iH 89 w' w.heap.size (fun k_=>k_≠IA) (.slice Ao9 lH.length co9) lH)∧ah (w'.heap[Vv]?=some (.cells #[(.slice j4 aH.length j5),.int .i64 aA] 25 (0,0)))∧ah (w'.heap[IA]?=some (.cells #[.string j6,.string iO,.bool mh] 89 (0,0)))∧ah (Below w.heap.size w w'))
 case atStart=>exact⟨(0),(wrap64 ((lH.length:Int)-1)),zs,zs,H',⟨Nat.le_refl _⟩,⟨zq (Kd.R_mono IB.out (fun _ hk=>hk.2))⟩,⟨by exact zk kr⟩,⟨by exact zk mr⟩,⟨zb HB⟩⟩
 case round=>
  clear H'
  try clear c1
  try clear p2
  try clear c6
  try clear p6
  try clear yQ
  try clear yR
  try clear yS
  try clear yT
  obtain⟨fE,mD,rfl,rfl,HA,jd,HO_6,kr,mr,HB⟩:=hrel
  cases gk with
  |zero=>exact absurd HA.out (by simp[bI.l0])
  |succ k1=>
   have H:=HA.out
   clear HA
   simp only[bI.l0]at H
   replace H:=sp H
   rcases H with⟨c10,H⟩|⟨c10,H⟩
   ·skip
    have c10b0:=decide_eq_true c10
    clear c10
    by_cases c11:0≤mD
    ·rw[if_pos c11]at H
     have c11b0:=decide_eq_true c11
     clear c11
     by_cases c12:mD<(lH.length:Int)
     ·rw[if_pos c12]at H
      have c12b0:=decide_eq_true c12
      clear c12
      by_cases c13:((aU lH mD).f0).toList=j6.toList
      ·rw[if_pos c13]at H
       have c13b0:(((aU lH mD).f0).toList==j6.toList)=true:=beq_iff_eq.mpr c13
       have c13b1:(((aU lH mD).f0).toList != j6.toList)=false:=bne_eq_false_iff_eq.mpr c13
       clear c13
       have H':=ah.mk H
       clear H
       have Oe:0≤(mD:Int):=of_decide_eq_true za
       have Og:mD<(lH.length:Int):=of_decide_eq_true za
       obtain⟨an8,afU,Vw,Vx,Vy⟩:=eT (Kd.R_reads' HO_6.out).2.2 mD Oe Og
       cases afU
       replace Oe:=eq_true Oe
       replace Og:=eq_true Og
       have an9:=mQ.out
       have ana:=mP.out
       obtain⟨zM,zN,zO,zP,zQ,zR⟩:=c3 mr
       go_wp2
       repeat(go_quiet (fail);try go_wp2)
       go_roundg k1
       case measure=>have:=jd.out;omega
       case rel=>exact⟨(wrap64 (mD+1)),(wrap64 (mD-1)),zs,zs,H',⟨by have:=jd.out;omega⟩,⟨by exact zr HO_6⟩,⟨by exact zk kr⟩,⟨by exact zk mr⟩,⟨zb HB⟩⟩
      ·rw[if_neg c13]at H
       have c13b0:(((aU lH mD).f0).toList==j6.toList)=false:=beq_eq_false_iff_ne.mpr c13
       have c13b1:(((aU lH mD).f0).toList != j6.toList)=true:=bne_iff_ne.mpr c13
       have H':=ah.mk H
       clear H
       have Oe:0≤(mD:Int):=of_decide_eq_true za
       have Og:mD<(lH.length:Int):=of_decide_eq_true za
       obtain⟨an8,afU,Vw,Vx,Vy⟩:=eT (Kd.R_reads' HO_6.out).2.2 mD Oe Og
       cases afU
       replace Oe:=eq_true Oe
       replace Og:=eq_true Og
       have a1a:=mQ.out
       have a1b:=mP.out
       obtain⟨xu,xw,Kn,xA,xB,Ko⟩:=c3 mr
       go_wp2
       repeat(go_quiet (fail);try go_wp2)
       go_roundg k1
       case measure=>have:=jd.out;omega
       case rel=>exact⟨(fE),(wrap64 (mD-1)),zs,zs,H',⟨by have:=jd.out;omega⟩,⟨by exact zr HO_6⟩,⟨by exact zk kr⟩,⟨by exact zk mr⟩,⟨zb HB⟩⟩
     ·rw[if_neg c12]at H
      exact absurd H (by simp)
    ·rw[if_neg c11]at H
     exact absurd H (by simp)
   ·skip
    have c10b0:=decide_eq_false c10
    clear c10
    have H':=ah.mk H
    clear H
    go_wp2
    repeat(go_quiet (fail);try go_wp2)
    go_loopg [9] k1 (fun kq v9 w'=>∃(pY:Int),v9= .int .i64 pY∧ah (bI.l1 kq lH fE pY j6 iO mh=some (r1,r2))∧ah (kq≤k1)∧ah (Kd.R iH 89 w' w.heap.size (fun k_=>k_≠IA) (.slice Ao9 lH.length co9) lH)∧ah (w'.heap[Vv]?=some (.cells #[(.slice j4 aH.length j5),.int .i64 aA] 25 (0,0)))∧ah (w'.heap[IA]?=some (.cells #[.string j6,.string iO,.bool mh] 89 (0,0)))∧ah (Below w.heap.size w w'))
    case atStart=>exact⟨(0),zs,H',⟨Nat.le_refl _⟩,⟨by exact zr HO_6⟩,⟨by exact zk kr⟩,⟨by exact zk mr⟩,⟨zb HB⟩⟩
    case round=>
     clear H'
     try clear c1
     try clear p2
     try clear p4
     try clear q4
     try clear hx4
     try clear c6
     try clear p6
     try clear c10
     try clear c10b0
     try clear c11
     try clear c11b0
     try clear c12
     try clear c12b0
     try clear c13
     try clear c13b0
     try clear c13b1
     try clear c14
     try clear c16
     try clear zM
     try clear zN
     try clear zO
     try clear xu
     try clear xw
     try clear Kn
     try clear yQ
     try clear yR
     try clear zP
     try clear zQ
     try clear zR
     try clear xA
     try clear xB
     try clear Ko
     try clear yS
     try clear yT
     try clear Vw
     try clear Vx
     try clear Vy
     try clear p2
     try clear Oe
     try clear p6
     try clear Og
     obtain⟨pY,rfl,HA,MB,HO_6,kr,mr,HB⟩:=hrel
     cases gk with
     |zero=>exact absurd HA.out (by simp[bI.l1])
     |succ k2=>
      have H:=HA.out
      clear HA
      simp only[bI.l1]at H
      replace H:=sp H
      rcases H with⟨c18,H⟩|⟨c18,H⟩
      ·skip
       have c18b0:=decide_eq_true c18
       clear c18
       by_cases c19:0≤pY
       ·rw[if_pos c19]at H
        have c19b0:=decide_eq_true c19
        clear c19
        by_cases c20:((aU lH pY).f0).toList=j6.toList
        ·rw[if_pos c20]at H
         have c20b0:(((aU lH pY).f0).toList==j6.toList)=true:=beq_iff_eq.mpr c20
         have c20b1:(((aU lH pY).f0).toList != j6.toList)=false:=bne_eq_false_iff_eq.mpr c20
         clear c20
         have anb:=ah.mk H
         clear H
         have Rm:0≤(pY:Int):=of_decide_eq_true za
         have Rn:pY<(lH.length:Int):=of_decide_eq_true za
         obtain⟨acR,afV,a9g,a9h,a9i⟩:=eT (Kd.R_reads' HO_6.out).2.2 pY Rm Rn
         cases afV
         replace Rm:=eq_true Rm
         replace Rn:=eq_true Rn
         have ack:=mQ.out
         have acn:=mP.out
         obtain⟨KC,KD,UH,KE,KF,UI⟩:=c3 mr
         have afW:0≤(pY:Int):=of_decide_eq_true za
         have afX:pY<(lH.length:Int):=of_decide_eq_true za
         obtain⟨anc,aDi,ave,avf,avg⟩:=eT (Kd.R_reads' HO_6.out).2.2 pY afW afX
         obtain rfl:acR=anc:=(by injection aDi)
         replace afW:=eq_true afW
         replace afX:=eq_true afX
         go_upto_if 52 with(fail)
         repeat(go_quiet (fail);go_upto_if 52 with(fail))
         have H:=anb.out
         clear anb
         by_cases c24:((aU lH pY).f1).toList=iO.toList
         ·rw[if_pos c24]at H
          have c24b0:(((aU lH pY).f1).toList==iO.toList)=true:=beq_iff_eq.mpr c24
          have c24b1:(((aU lH pY).f1).toList != iO.toList)=false:=bne_eq_false_iff_eq.mpr c24
          clear c24
          (first|rw[c24b0]|rw[c24b1]|rw[c24b2]|(simp only[gI,iB];rw[c24b0])|skip)
          simp only[Option.some.injEq,Prod.mk.injEq]at H
          obtain⟨rfl,rfl⟩:=H
          go_wp2
          repeat(go_quiet (fail);try go_wp2)
          go_ret2
          exact⟨ze,zb HB⟩
         ·rw[if_neg c24]at H
          have c24b0:(((aU lH pY).f1).toList==iO.toList)=false:=beq_eq_false_iff_ne.mpr c24
          have c24b1:(((aU lH pY).f1).toList != iO.toList)=true:=bne_iff_ne.mpr c24
          (first|rw[c24b0]|rw[c24b1]|rw[c24b2]|(simp only[gI,iB];rw[c24b0])|skip)
          have H':=ah.mk H
          clear H
          go_wp2
          repeat(go_quiet (fail);try go_wp2)
          go_roundg k2
          case measure=>have:=jd.out;have:=MB.out;omega
          case rel=>exact⟨(wrap64 (pY+1)),zs,H',⟨by have:=jd.out;have:=MB.out;omega⟩,⟨by exact zr HO_6⟩,⟨by exact zk kr⟩,⟨by exact zk mr⟩,⟨zb HB⟩⟩
        ·rw[if_neg c20]at H
         have c20b0:(((aU lH pY).f0).toList==j6.toList)=false:=beq_eq_false_iff_ne.mpr c20
         have c20b1:(((aU lH pY).f0).toList != j6.toList)=true:=bne_iff_ne.mpr c20
         have H':=ah.mk H
         clear H
         have Rm:0≤(pY:Int):=of_decide_eq_true za
         have Rn:pY<(lH.length:Int):=of_decide_eq_true za
         obtain⟨acR,afV,a9g,a9h,a9i⟩:=eT (Kd.R_reads' HO_6.out).2.2 pY Rm Rn
         cases afV
         replace Rm:=eq_true Rm
         replace Rn:=eq_true Rn
         have acS:=mQ.out
         have acT:=mP.out
         obtain⟨Ku,Kv,a7C,Kw,Ky,a7D⟩:=c3 mr
         go_wp2
         repeat(go_quiet (fail);try go_wp2)
         go_roundg k2
         case measure=>have:=jd.out;have:=MB.out;omega
         case rel=>exact⟨(wrap64 (pY+1)),zs,H',⟨by have:=jd.out;have:=MB.out;omega⟩,⟨by exact zr HO_6⟩,⟨by exact zk kr⟩,⟨by exact zk mr⟩,⟨zb HB⟩⟩
       ·rw[if_neg c19]at H
        exact absurd H (by simp)
      ·skip
       have c18b0:=decide_eq_false c18
       clear c18
       simp only[Option.some.injEq,Prod.mk.injEq]at H
       obtain⟨rfl,rfl⟩:=H
       go_wp2
       repeat(go_quiet (fail);try go_wp2)
       go_ret2
       exact⟨ze,zb HB⟩
def bZ.l0:Nat→Int→Int→Int→Option (Int)
 |0,_,_,_=>none
 |k+1,x0,x3,x4=>if x4<x0 then(bZ.l0 k x0 (wrap64 (2*x3)) (wrap64 (x4+1)))else(some x3)
def bZ.f(k:Nat)(a0:Int):Option (Int):=bZ.l0 k a0 1 0
theorem bZ.mono_l:∀k,(∀y0 y1 y2,gM (bZ.l0 k y0 y1 y2) (bZ.l0 (k+1) y0 y1 y2))
 |0=>fun _ _ _ r h=>by simp[bZ.l0]at h
 |k+1=>by
  have mW:=bZ.mono_l k
  ·intro y0 y1 y2
   unfold bZ.l0
   exact zm
theorem bZ.mono:∀a0 k,gM (bZ.f k a0) (bZ.f (k+1) a0):=by
 intro a0 k
 have mW:=bZ.mono_l k
 unfold bZ.f
 exact zm
theorem bZ.calls(k:Nat)(a0:Int)(r:Int)(w:World)(h:bZ.f k a0=some r):
 Calls Tryz.prog 110 #[.int .i64 a0] w fun e w'=>e= .returned (.int .i64 r)∧aT w w':=by
 have H:(bZ.l0 k a0 1 0)=some r:=h
 clear h
 have H':=ah.mk H
 clear H
 go_enter Tryz.func110,Tryz.ntmps110
 go_wp2
 go_loopg [3,4] k (fun kq v3 v4 w'=>∃(dh:Int)(eB:Int),v3= .int .i64 dh∧v4= .int .i64 eB∧ah (bZ.l0 kq a0 dh eB=some r)∧ah (kq≤k)∧aT w w')
 case atStart=>exact⟨(1),(0),zs,zs,H',⟨Nat.le_refl _⟩,by repeat(first|exact aT.refl _|apply aT.step)⟩
 case round=>
  clear H'
  try clear c1
  obtain⟨dh,eB,rfl,rfl,HA,jd,⟨m1,rfl⟩⟩:=hrel
  cases gk with
  |zero=>exact absurd HA.out (by simp[bZ.l0])
  |succ k1=>
   have H:=HA.out
   clear HA
   simp only[bZ.l0]at H
   replace H:=sp H
   rcases H with⟨c2,H⟩|⟨c2,H⟩
   ·skip
    have c2b0:=decide_eq_true c2
    clear c2
    have H':=ah.mk H
    clear H
    go_wp2
    go_roundg k1
    case measure=>have:=jd.out;omega
    case rel=>exact⟨(wrap64 (2*dh)),(wrap64 (eB+1)),zs,zs,H',⟨by have:=jd.out;omega⟩,by repeat(first|exact aT.refl _|apply aT.step)⟩
   ·skip
    have c2b0:=decide_eq_false c2
    clear c2
    obtain rfl:=Option.some.inj H
    go_wp2
    go_ret
    exact⟨zs,by repeat(first|exact aT.refl _|apply aT.step)⟩
def aX.l0:Nat→Int→ByteArray→Option (ByteArray)
 |0,_,_=>none
 |k+1,x0,x8=>if x0≥128 then((bR.f (wrap64 ((Int.tmod x0 128)+128))).bind fun Ro=>(if x8.size+Ro.size≤9223372036854775807 then(aX.l0 k (wrap64 (Int.tdiv x0 128)) (x8++Ro))else(none)))else((bR.f x0).bind fun a1c=>(if x8.size+a1c.size≤9223372036854775807 then(some (x8++a1c))else(none)))
def aX.f(k:Nat)(a0:Int)(a1:Int)(a2:Int):Option (ByteArray):=(bZ.f k a1).bind fun sQ=>(if a0<(wrap64 (sQ-1))then((bR.f (wrap64 ((wrap64 (a2*(wrap64 ((wrap64 (sQ-1))+1))))+a0))).bind fun a1d=>(some a1d))else((bR.f (wrap64 ((wrap64 (a2*(wrap64 ((wrap64 (sQ-1))+1))))+(wrap64 (sQ-1))))).bind fun XF=>(aX.l0 k (wrap64 (a0-(wrap64 (sQ-1)))) XF)))
theorem aX.mono_l:∀k,(∀y0 y1,gM (aX.l0 k y0 y1) (aX.l0 (k+1) y0 y1))
 |0=>fun _ _ r h=>by simp[aX.l0]at h
 |k+1=>by
  have mW:=aX.mono_l k
  ·intro y0 y1
   unfold aX.l0
   have m0:=@bZ.mono
   exact zm
theorem aX.mono:∀a0 a1 a2 k,gM (aX.f k a0 a1 a2) (aX.f (k+1) a0 a1 a2):=by
 intro a0 a1 a2 k
 have mW:=aX.mono_l k
 unfold aX.f
 have m0:=@bZ.mono
 exact zm
theorem aX.calls(k:Nat)(a0:Int)(a1:Int)(a2:Int)(r:ByteArray)(w:World)(h:aX.f k a0 a1 a2=some r):
 Calls Tryz.prog 105 #[.int .i64 a0,.int .i64 a1,.int .i64 a2] w fun e w'=>e= .returned (.string r)∧Below w.heap.size w w':=by
 have HB:=ah.mk (Below.refl w.heap.size w)
 have H:((bZ.f k a1).bind fun sQ=>(if a0<(wrap64 (sQ-1))then((bR.f (wrap64 ((wrap64 (a2*(wrap64 ((wrap64 (sQ-1))+1))))+a0))).bind fun a1d=>(some a1d))else((bR.f (wrap64 ((wrap64 (a2*(wrap64 ((wrap64 (sQ-1))+1))))+(wrap64 (sQ-1))))).bind fun XF=>(aX.l0 k (wrap64 (a0-(wrap64 (sQ-1)))) XF))))=some r:=h
 clear h
 obtain⟨sQ,A4,H⟩:=ob H
 (try dsimp only at H)
 replace H:=sp H
 rcases H with⟨c5,H⟩|⟨c5,H⟩
 ·skip
  have c5b0:=decide_eq_true c5
  clear c5
  obtain⟨a1d,A6,H⟩:=ob H
  (try dsimp only at H)
  obtain rfl:=Option.some.inj H
  go_enter Tryz.func105,Tryz.ntmps105
  go_wp2_with (first|((with_reducible refine gq 110 rfl ?_);refine gl (some 10) Tryz.func110 #[.int .i64 a1] ?_;(with_reducible refine(bZ.calls k a1 sQ _ A4.out).mono ?_);rintro e w' ⟨rfl,⟨nd,rfl⟩⟩;refine⟨_,rfl,?_⟩)|((with_reducible refine gq 59 rfl ?_);refine gl (some 21) Tryz.func59 #[.int .i64 (wrap64 ((wrap64 (a2*(wrap64 ((wrap64 (sQ-1))+1))))+a0))] ?_;(with_reducible refine(bR.calls (wrap64 ((wrap64 (a2*(wrap64 ((wrap64 (sQ-1))+1))))+a0)) a1d _ A6.out).mono ?_);rintro e w7 ⟨rfl,hb⟩;refine⟨_,rfl,?_⟩;replace HB:=ah.mk (ai (zb HB) hb);(try clear hb)))
  go_ret
  exact⟨ze,zb HB⟩
 ·skip
  have c5b0:=decide_eq_false c5
  clear c5
  obtain⟨XF,A8,H⟩:=ob H
  (try dsimp only at H)
  have H':=ah.mk H
  clear H
  go_enter Tryz.func105,Tryz.ntmps105
  go_wp2_with (first|((with_reducible refine gq 110 rfl ?_);refine gl (some 10) Tryz.func110 #[.int .i64 a1] ?_;(with_reducible refine(bZ.calls k a1 sQ _ A4.out).mono ?_);rintro e w' ⟨rfl,⟨nd,rfl⟩⟩;refine⟨_,rfl,?_⟩)|((with_reducible refine gq 59 rfl ?_);refine gl (some 28) Tryz.func59 #[.int .i64 (wrap64 ((wrap64 (a2*(wrap64 ((wrap64 (sQ-1))+1))))+(wrap64 (sQ-1))))] ?_;(with_reducible refine(bR.calls (wrap64 ((wrap64 (a2*(wrap64 ((wrap64 (sQ-1))+1))))+(wrap64 (sQ-1)))) XF _ A8.out).mono ?_);rintro e w9 ⟨rfl,hb⟩;refine⟨_,rfl,?_⟩;replace HB:=ah.mk (ai (zb HB) hb);(try clear hb)))
  go_loopg [0,8] k (fun kq v0 v8 w'=>∃(lV:Int)(mD:ByteArray),v0= .int .i64 lV∧v8= .string mD∧ah (aX.l0 kq lV mD=some r)∧ah (kq≤k)∧ah (Below w.heap.size w w'))
  case atStart=>exact⟨(wrap64 (a0-(wrap64 (sQ-1)))),(XF),zs,zs,H',⟨Nat.le_refl _⟩,⟨zb HB⟩⟩
  case round=>
   clear H'
   try clear c1
   try clear p2
   try clear c5
   try clear c5b0
   try clear p6
   obtain⟨lV,mD,rfl,rfl,HA,jd,HB⟩:=hrel
   cases gk with
   |zero=>exact absurd HA.out (by simp[aX.l0])
   |succ k1=>
    have H:=HA.out
    clear HA
    simp only[aX.l0]at H
    replace H:=sp H
    rcases H with⟨c10,H⟩|⟨c10,H⟩
    ·skip
     have c10b0:=decide_eq_true c10
     clear c10
     obtain⟨Ro,A11,H⟩:=ob H
     (try dsimp only at H)
     by_cases c12:mD.size+Ro.size≤9223372036854775807
     ·rw[if_pos c12]at H
      have c12b0:=eq_true c12
      have c12b1:=decide_eq_true c12
      try have c12b2:(9223372036854775807<mD.size+Ro.size)=False:=eq_false (Nat.not_lt.2 c12)
      have H':=ah.mk H
      clear H
      go_wp2_with (first|((with_reducible refine gq 59 rfl ?_);refine gl (some 38) Tryz.func59 #[.int .i64 (wrap64 ((Int.tmod lV 128)+128))] ?_;(with_reducible refine(bR.calls (wrap64 ((Int.tmod lV 128)+128)) Ro _ A11.out).mono ?_);rintro e w13 ⟨rfl,hb⟩;refine⟨_,rfl,?_⟩;replace HB:=ah.mk (ai (zb HB) hb);(try clear hb)))
      go_roundg k1
      case measure=>have:=jd.out;omega
      case rel=>exact⟨(wrap64 (Int.tdiv lV 128)),(mD++Ro),zs,zs,H',⟨by have:=jd.out;omega⟩,⟨zb HB⟩⟩
     ·rw[if_neg c12]at H
      exact absurd H (by simp)
    ·skip
     have c10b0:=decide_eq_false c10
     clear c10
     obtain⟨a1c,A14,H⟩:=ob H
     (try dsimp only at H)
     replace H:=sp H
     rcases H with⟨c15,H⟩|⟨c15,H⟩
     ·skip
      have c15b0:=eq_true c15
      have c15b1:=decide_eq_true c15
      try have c15b2:(9223372036854775807<mD.size+a1c.size)=False:=eq_false (Nat.not_lt.2 c15)
      obtain rfl:=Option.some.inj H
      go_wp2_with (first|((with_reducible refine gq 59 rfl ?_);refine gl (some 44) Tryz.func59 #[.int .i64 lV] ?_;(with_reducible refine(bR.calls lV a1c _ A14.out).mono ?_);rintro e w16 ⟨rfl,hb⟩;refine⟨_,rfl,?_⟩;replace HB:=ah.mk (ai (zb HB) hb);(try clear hb)))
      go_ret
      exact⟨ze,zb HB⟩
     ·skip
      exact absurd H (by simp)
def bG.l0:Nat→Int→List Int→Int→Option (List Int)
 |0,_,_,_=>none
 |k+1,x0,x5,x6=>if x6≥0 then(if 0≤x6 then(if x6<(x5.length:Int)then(bG.l0 k (wrap64 (Int.tdiv x0 2)) (x5.set (x6:Int).toNat (Int.tmod x0 2)) (wrap64 (x6-1)))else(none))else(none))else(some x5)
def bG.f(k:Nat)(a0:Int)(a1:Int):Option (List Int):=if 0≤a1 then(if(a1:Int).toNat≤35184372088832 then(bG.l0 k a0 (List.replicate (a1:Int).toNat 0) (wrap64 (a1-1)))else(none))else(none)
theorem bG.mono_l:∀k,(∀y0 y1 y2,gM (bG.l0 k y0 y1 y2) (bG.l0 (k+1) y0 y1 y2))
 |0=>fun _ _ _ r h=>by simp[bG.l0]at h
 |k+1=>by
  have mW:=bG.mono_l k
  ·intro y0 y1 y2
   unfold bG.l0
   exact zm
theorem bG.mono:∀a0 a1 k,gM (bG.f k a0 a1) (bG.f (k+1) a0 a1):=by
 intro a0 a1 k
 have mW:=bG.mono_l k
 unfold bG.f
 exact zm
theorem bG.calls(k:Nat)(a0:Int)(a1:Int)(r:List Int)(w:World)(h:bG.f k a0 a1=some r):
 Calls Tryz.prog 114 #[.int .i64 a0,.int .i64 a1] w fun e w'=>∃vM:Value,e= .returned (vM)∧Kd.R (Kd.int .i64) 3 w' w.heap.size (fun _=>True) vM r∧Below w.heap.size w w':=by
 have HB:=ah.mk (Below.refl w.heap.size w)
 have H:(if 0≤a1 then(if(a1:Int).toNat≤35184372088832 then(bG.l0 k a0 (List.replicate (a1:Int).toNat 0) (wrap64 (a1-1)))else(none))else(none))=some r:=h
 clear h
 replace H:=sp H
 rcases H with⟨c3,H⟩|⟨c3,H⟩
 ·skip
  have c3b0:=eq_true c3
  have c3b1:=decide_eq_true c3
  clear c3
  by_cases c4:(a1:Int).toNat≤35184372088832
  ·rw[if_pos c4]at H
   have c4b0:=eq_true c4
   have c4b1:=decide_eq_true c4
   clear c4
   obtain⟨ane,Oh⟩:∃y_:List Int,y_=(List.replicate (a1:Int).toNat 0):=⟨_,rfl⟩
   replace H:(bG.l0 k a0 ane (wrap64 (a1-1)))=some r:=by first|(rw[Oh];with_reducible exact H)|(have fH:=(Option.bind_some _ _).symm.trans H;rw[Oh];with_reducible exact fH)|(have fH:=(Option.bind_some _ _).symm.trans H;with_reducible exact fH)|with_reducible exact H|(rw[Oh];exact H)|exact H
   have acU:=ah.mk Oh
   clear Oh
   have H':=ah.mk H
   clear H
   go_enter Tryz.func114,Tryz.ntmps114
   go_wp2_with (first|((with_reducible refine gd 8 rfl ?_);refine Kd.R_make (Kd.int .i64) _ 3 rfl (N:=8) rfl 91 _ _ rfl a1 rfl rfl Tryz.underlying91 (.int .i64 0) 8 info3 rfl (by decide) (by omega) 0 (ok:=fun _=>True) (okp:=fun _=>True) rfl (fun _ hk=>hk) trivial (of_decide_eq_true za) (Nat.le_trans (Nat.mul_le_mul_right _ (of_decide_eq_true za:a1.toNat≤35184372088832)) (by omega)) (Below.refl _ _) (Nat.le_refl _) ?_;intro aDj w5 Mx hb nL fM;clear nL fM;(first|rw[←acU.out]at Mx|(simp only[Int.reduceToNat]at Mx;rw[←acU.out]at Mx));have anf:=ah.mk (Kd.R_lower Mx (aJ (zb HB)));replace HB:=ah.mk (ai (zb HB) hb);clear hb Mx))
   go_loopg [0,6] k (fun kq v0 v6 w'=>∃(lV:Int)(fP:List Int)(iW:Int),v0= .int .i64 lV∧v6= .int .i64 iW∧ah (bG.l0 kq lV fP iW=some r)∧ah (kq≤k)∧ah (Kd.R (Kd.int .i64) 3 w' w.heap.size (fun _=>True) aDj fP)∧ah (Below w.heap.size w w'))
   case atStart=>exact⟨(a0),(ane),(wrap64 (a1-1)),zs,zs,H',⟨Nat.le_refl _⟩,⟨by exact zr anf⟩,⟨zb HB⟩⟩
   case round=>
    clear H'
    try clear c1
    try clear p2
    try clear c3
    try clear c3b0
    try clear c3b1
    try clear c4
    try clear c4b0
    try clear c4b1
    try clear p6
    obtain⟨lV,fP,iW,rfl,rfl,HA,jd,HO_5,HB⟩:=hrel
    cases gk with
    |zero=>exact absurd HA.out (by simp[bG.l0])
    |succ k1=>
     have H:=HA.out
     clear HA
     simp only[bG.l0]at H
     by_cases c7:iW≥0
     ·rw[if_pos c7]at H
      have c7b0:=decide_eq_true c7
      clear c7
      by_cases c8:0≤iW
      ·rw[if_pos c8]at H
       have c8b0:=decide_eq_true c8
       clear c8
       by_cases c9:iW<(fP.length:Int)
       ·rw[if_pos c9]at H
        have c9b0:=decide_eq_true c9
        clear c9
        obtain⟨afY,Oi⟩:∃y_:List Int,y_=(fP.set (iW:Int).toNat (Int.tmod lV 2)):=⟨_,rfl⟩
        replace H:(bG.l0 k1 (wrap64 (Int.tdiv lV 2)) afY (wrap64 (iW-1)))=some r:=by first|(rw[Oi];with_reducible exact H)|(have fH:=(Option.bind_some _ _).symm.trans H;rw[Oi];with_reducible exact fH)|(have fH:=(Option.bind_some _ _).symm.trans H;with_reducible exact fH)|with_reducible exact H|(rw[Oi];exact H)|exact H
        have ang:=ah.mk Oi
        clear Oi
        have H':=ah.mk H
        clear H
        have p10:0≤(iW:Int):=of_decide_eq_true za
        have q10:(iW:Int)<((fP.length:Int):Int):=of_decide_eq_true za
        obtain⟨afZ,yV,XC,anh,aDm,aQQ,ani⟩:=Kd.R_form HO_5.out (by omega)
        (first|cases XC|(injection XC with ea_ en_ ec_;(first|subst ea_|(injection ea_ with ea_;subst ea_));subst ec_;clear en_))
        have aDn:=ah.mk anh
        have aQT:=ah.mk ani
        clear anh aDm ani
        obtain⟨aDo,aDp⟩:=Kd.R_celln 0 HO_5.out (iW:Int) p10 q10
        replace p10:=eq_true p10
        replace q10:=eq_true q10
        have ag0:=Kd.R_putg HO_5.out (iW:Int) (Int.tmod lV 2)
        go_wp2_with (first|((with_reducible refine QM (t:=3) (p:=19) rfl ?_);refine MI (t:=3) (p:=19) (v:=?vo_w12) (w1:=(wr.setCell ⟨afZ,(iW:Int).toNat,none⟩ (.int .i64 (Int.tmod lV 2)))) ?hg ?ho ?hn ?hr ?_;(case ho=>rfl);(case hg=>rfl);(case hn=>rfl);(case hr=>first|(go_simp;done)|(go_simp;rfl));intro Xu hw;have hg:wr.grownBy Xu (some afZ):=(by rw[hw];exact ag0.2);have hp_:Kd.R (Kd.int .i64) 3 Xu w.heap.size (fun _=>True) (.slice (some ⟨afZ,0,none⟩) fP.length yV) afY:=(by rw[hw,ang.out];exact ag0.1);clear ag0;replace HO_5:=ah.mk (hp_);replace HB:=ah.mk ((by rw[hw];exact oJ (HB.out) aDn.out:Below w.heap.size w Xu));clear hg hw hp_))
        go_roundg k1
        case measure=>have:=jd.out;omega
        case rel=>exact⟨(wrap64 (Int.tdiv lV 2)),(afY),(wrap64 (iW-1)),zs,zs,H',⟨by have:=jd.out;omega⟩,⟨by exact zr HO_5⟩,⟨zb HB⟩⟩
       ·rw[if_neg c9]at H
        exact absurd H (by simp)
      ·rw[if_neg c8]at H
       exact absurd H (by simp)
     ·rw[if_neg c7]at H
      have c7b0:=decide_eq_false c7
      clear c7
      obtain rfl:=Option.some.inj H
      go_wp2
      go_ret
      exact⟨_,ze,zq (HO_5.out),zb HB⟩
  ·rw[if_neg c4]at H
   exact absurd H (by simp)
 ·skip
  exact absurd H (by simp)
def bT.l0:Nat→List Int→Int→Int→Option (Int)
 |0,_,_,_=>none
 |k+1,x0,x3,x4=>if x4<(x0.length:Int)then(if 0≤x4 then(bT.l0 k x0 (wrap64 ((wrap64 (2*x3))+(rd x0 x4))) (wrap64 (x4+1)))else(none))else(some x3)
def bT.f(k:Nat)(l0:List Int):Option (Int):=bT.l0 k l0 0 0
theorem bT.mono_l:∀k,(∀y0 y1 y2,gM (bT.l0 k y0 y1 y2) (bT.l0 (k+1) y0 y1 y2))
 |0=>fun _ _ _ r h=>by simp[bT.l0]at h
 |k+1=>by
  have mW:=bT.mono_l k
  ·intro y0 y1 y2
   unfold bT.l0
   exact zm
theorem bT.mono:∀a0 k,gM (bT.f k a0) (bT.f (k+1) a0):=by
 intro a0 k
 have mW:=bT.mono_l k
 unfold bT.f
 exact zm
theorem bT.calls(k:Nat)(A0:Option Addr)(c0:Nat)(l0:List Int)(r:Int)(w:World)(hr0:Kd.C (Kd.int .i64) w A0 l0.length l0)(hc0:l0.length≤c0)(h:bT.f k l0=some r):
 Calls Tryz.prog 115 #[.slice A0 l0.length c0] w fun e w'=>e= .returned (.int .i64 r)∧aT w w':=by
 have En:=ah.mk hr0
 have Z7:=ah.mk hc0
 clear hr0 hc0
 have H:(bT.l0 k l0 0 0)=some r:=h
 clear h
 have H':=ah.mk H
 clear H
 go_enter Tryz.func115,Tryz.ntmps115
 go_wp2
 go_loopg [3,4] k (fun kq v3 v4 w'=>∃(dh:Int)(eB:Int),v3= .int .i64 dh∧v4= .int .i64 eB∧ah (bT.l0 kq l0 dh eB=some r)∧ah (kq≤k)∧aT w w')
 case atStart=>exact⟨(0),(0),zs,zs,H',⟨Nat.le_refl _⟩,by repeat(first|exact aT.refl _|apply aT.step)⟩
 case round=>
  clear H'
  try clear c1
  obtain⟨dh,eB,rfl,rfl,HA,jd,⟨m1,rfl⟩⟩:=hrel
  cases gk with
  |zero=>exact absurd HA.out (by simp[bT.l0])
  |succ k1=>
   have H:=HA.out
   clear HA
   simp only[bT.l0]at H
   replace H:=sp H
   rcases H with⟨c2,H⟩|⟨c2,H⟩
   ·skip
    have c2b0:=decide_eq_true c2
    clear c2
    by_cases c3:0≤eB
    ·rw[if_pos c3]at H
     have c3b0:=decide_eq_true c3
     clear c3
     have H':=ah.mk H
     clear H
     have ag1:0≤(eB:Int):=of_decide_eq_true za
     have ag2:eB<(l0.length:Int):=of_decide_eq_true za
     obtain⟨aMt,aDq,avi⟩:=Kd.at_int En.out eB ag1 ag2
     cases aDq
     replace ag1:=eq_true ag1
     replace ag2:=eq_true ag2
     go_wp2
     go_roundg k1
     case measure=>have:=jd.out;omega
     case rel=>exact⟨(wrap64 ((wrap64 (2*dh))+(rd l0 eB))),(wrap64 (eB+1)),zs,zs,H',⟨by have:=jd.out;omega⟩,by repeat(first|exact aT.refl _|apply aT.step)⟩
    ·rw[if_neg c3]at H
     exact absurd H (by simp)
   ·skip
    have c2b0:=decide_eq_false c2
    clear c2
    obtain rfl:=Option.some.inj H
    go_wp2
    go_ret
    exact⟨zs,by repeat(first|exact aT.refl _|apply aT.step)⟩
mutual
def aI.l0:Nat→ByteArray→Int→Int→Int→Option (Int×Int×Bool)
 |0,_,_,_,_=>none
 |k+1,x0,x8,x9,x10=>if x10<(x0.size:Int)then(aI.j1 k x0 x8 x9 x10 (decide (x10≤3)))else(aI.j1 k x0 x8 x9 x10 false)
def aI.j1:Nat→ByteArray→Int→Int→Int→Bool→Option (Int×Int×Bool)
 |0,_,_,_,_,_=>none
 |k+1,x0,x8,x9,x10,x33=>if x33=true then(if 0≤x10 then(if x10<(x0.size:Int)then(if(bt x0 x10)<128 then(if(bt x0 x10)=0 then(if x10>1 then(some (0,0,false))else(if(wrap64 (x8+(wrap64 (x9*(Int.tmod (wrap64 (bt x0 x10)) 128)))))>9999 then(some (0,0,false))else(some (wrap64 (x8+(wrap64 (x9*(Int.tmod (wrap64 (bt x0 x10)) 128)))),wrap64 (x10+1),true))))else(if(wrap64 (x8+(wrap64 (x9*(Int.tmod (wrap64 (bt x0 x10)) 128)))))>9999 then(some (0,0,false))else(some (wrap64 (x8+(wrap64 (x9*(Int.tmod (wrap64 (bt x0 x10)) 128)))),wrap64 (x10+1),true))))else(aI.l0 k x0 (wrap64 (x8+(wrap64 (x9*(Int.tmod (wrap64 (bt x0 x10)) 128))))) (wrap64 (128*x9)) (wrap64 (x10+1))))else(none))else(none))else(some (0,0,false))
end
def aI.f(k:Nat)(a0:ByteArray)(a1:Int):Option (Int×Int×Bool):=if a0.toList=([]:List UInt8)then(some (0,0,false))else((bZ.f k a1).bind fun tV=>(if 0<(a0.size:Int)then(if(wrap64 ((wrap64 (tV-1))+1))=0 then(none)else(if(Int.tmod (wrap64 (bt a0 0)) (wrap64 ((wrap64 (tV-1))+1)))<(wrap64 (tV-1))then(some (Int.tmod (wrap64 (bt a0 0)) (wrap64 ((wrap64 (tV-1))+1)),1,true))else(aI.l0 k a0 (Int.tmod (wrap64 (bt a0 0)) (wrap64 ((wrap64 (tV-1))+1))) 1 1)))else(none)))
theorem aI.mono_l:∀k,(∀y0 y1 y2 y3,gM (aI.l0 k y0 y1 y2 y3) (aI.l0 (k+1) y0 y1 y2 y3))∧(∀y0 y1 y2 y3 y4,gM (aI.j1 k y0 y1 y2 y3 y4) (aI.j1 (k+1) y0 y1 y2 y3 y4))
 |0=>⟨fun _ _ _ _ r h=>by simp[aI.l0]at h,fun _ _ _ _ _ r h=>by simp[aI.j1]at h⟩
 |k+1=>by
  obtain⟨mW,ih1⟩:=aI.mono_l k
  refine⟨?_,?_⟩
  ·intro y0 y1 y2 y3
   unfold aI.l0
   have m0:=@bZ.mono
   exact zm
  ·intro y0 y1 y2 y3 y4
   unfold aI.j1
   have m0:=@bZ.mono
   exact zm
theorem aI.mono:∀a0 a1 k,gM (aI.f k a0 a1) (aI.f (k+1) a0 a1):=by
 intro a0 a1 k
 obtain⟨mW,ih1⟩:=aI.mono_l k
 unfold aI.f
 have m0:=@bZ.mono
 exact zm
theorem aI.calls(k:Nat)(a0:ByteArray)(a1:Int)(r1:Int)(r2:Int)(r3:Bool)(w:World)(h:aI.f k a0 a1=some (r1,r2,r3)):
 Calls Tryz.prog 116 #[.string a0,.int .i64 a1] w fun e w'=>e= .returned (.tuple #[.int .i64 r1,.int .i64 r2,.bool r3])∧aT w w':=by
 have H:(if a0.toList=([]:List UInt8)then(some (0,0,false))else((bZ.f k a1).bind fun tV=>(if 0<(a0.size:Int)then(if(wrap64 ((wrap64 (tV-1))+1))=0 then(none)else(if(Int.tmod (wrap64 (bt a0 0)) (wrap64 ((wrap64 (tV-1))+1)))<(wrap64 (tV-1))then(some (Int.tmod (wrap64 (bt a0 0)) (wrap64 ((wrap64 (tV-1))+1)),1,true))else(aI.l0 k a0 (Int.tmod (wrap64 (bt a0 0)) (wrap64 ((wrap64 (tV-1))+1))) 1 1)))else(none))))=some (r1,r2,r3):=h
 clear h
 replace H:=sp H
 rcases H with⟨c3,H⟩|⟨c3,H⟩
 ·skip
  have c3b0:(a0.toList==([]:List UInt8))=true:=beq_iff_eq.mpr c3
  have c3b1:(a0.toList != ([]:List UInt8))=false:=bne_eq_false_iff_eq.mpr c3
  clear c3
  simp only[Option.some.injEq,Prod.mk.injEq]at H
  obtain⟨rfl,rfl,rfl⟩:=H
  go_enter Tryz.func116,Tryz.ntmps116
  go_wp2
  go_ret3
  exact⟨zs,by repeat(first|exact aT.refl _|apply aT.step)⟩
 ·skip
  have c3b0:(a0.toList==([]:List UInt8))=false:=beq_eq_false_iff_ne.mpr c3
  have c3b1:(a0.toList != ([]:List UInt8))=true:=bne_iff_ne.mpr c3
  obtain⟨tV,A4,H⟩:=ob H
  (try dsimp only at H)
  replace H:=sp H
  rcases H with⟨c5,H⟩|⟨c5,H⟩
  ·skip
   have c5b0:=decide_eq_true c5
   have c5b1:=decide_eq_true (by omega)
   clear c5
   by_cases c7:(wrap64 ((wrap64 (tV-1))+1))=0
   ·rw[if_pos c7]at H
    exact absurd H (by simp)
   ·rw[if_neg c7]at H
    have c7b0:((wrap64 ((wrap64 (tV-1))+1))==0)=false:=beq_eq_false_iff_ne.mpr c7
    have c7b1:((wrap64 ((wrap64 (tV-1))+1)) != 0)=true:=bne_iff_ne.mpr c7
    by_cases c8:(Int.tmod (wrap64 (bt a0 0)) (wrap64 ((wrap64 (tV-1))+1)))<(wrap64 (tV-1))
    ·rw[if_pos c8]at H
     have c8b0:=decide_eq_true c8
     clear c8
     simp only[Option.some.injEq,Prod.mk.injEq]at H
     obtain⟨rfl,rfl,rfl⟩:=H
     go_enter Tryz.func116,Tryz.ntmps116
     go_wp2_with (first|((with_reducible refine gq 110 rfl ?_);refine gl (some 14) Tryz.func110 #[.int .i64 a1] ?_;(with_reducible refine(bZ.calls k a1 tV _ A4.out).mono ?_);rintro e w' ⟨rfl,⟨nd,rfl⟩⟩;refine⟨_,rfl,?_⟩;have p6:0≤(0:Int):=(by omega);have q6:0<a0.size:=(by have:(0:Int)<(a0.size:Int):=of_decide_eq_true za;omega);have hx6:∀h:0<a0.size,((a0[0]'h).toNat:Int)=bt a0 0:=fF a0 0;clear p6;have qi6:(0<(a0.size:Int))=True:=eq_true (of_decide_eq_true za);replace q6:=eq_true q6))
     go_ret3
     exact⟨zs,by repeat(first|exact aT.refl _|apply aT.step)⟩
    ·rw[if_neg c8]at H
     have c8b0:=decide_eq_false c8
     clear c8
     have H':=ah.mk H
     clear H
     go_enter Tryz.func116,Tryz.ntmps116
     go_wp2_with (first|((with_reducible refine gq 110 rfl ?_);refine gl (some 14) Tryz.func110 #[.int .i64 a1] ?_;(with_reducible refine(bZ.calls k a1 tV _ A4.out).mono ?_);rintro e w' ⟨rfl,⟨nd,rfl⟩⟩;refine⟨_,rfl,?_⟩;have p6:0≤(0:Int):=(by omega);have q6:0<a0.size:=(by have:(0:Int)<(a0.size:Int):=of_decide_eq_true za;omega);have hx6:∀h:0<a0.size,((a0[0]'h).toNat:Int)=bt a0 0:=fF a0 0;clear p6;have qi6:(0<(a0.size:Int))=True:=eq_true (of_decide_eq_true za);replace q6:=eq_true q6))
     go_loopg [8,9,10] k (fun kq v8 v9 v10 w'=>∃(mD:Int)(tO:Int)(eP:Int),v8= .int .i64 mD∧v9= .int .i64 tO∧v10= .int .i64 eP∧ah (aI.l0 kq a0 mD tO eP=some (r1,r2,r3))∧ah (kq≤k)∧aT w w')
     case atStart=>exact⟨(Int.tmod (wrap64 (bt a0 0)) (wrap64 ((wrap64 (tV-1))+1))),(1),(1),zs,zs,zs,H',⟨Nat.le_refl _⟩,by repeat(first|exact aT.refl _|apply aT.step)⟩
     case round=>
      clear H'
      try clear c1
      try clear p2
      try clear c3
      try clear c3b0
      try clear c3b1
      try clear c5
      try clear c5b0
      try clear c5b1
      try clear p6
      try clear q6
      try clear hx6
      try clear qi6
      try clear c7
      try clear c7b0
      try clear c7b1
      try clear c8
      try clear c8b0
      try clear p6
      try clear q6
      obtain⟨mD,tO,eP,rfl,rfl,rfl,HA,jd,⟨m1,rfl⟩⟩:=hrel
      cases gk with
      |zero=>exact absurd HA.out (by simp[aI.l0])
      |succ k1=>
       have H:=HA.out
       clear HA
       simp only[aI.l0]at H
       have HC9:=ah.mk H
       clear H
       go_upto_region 9 with(fail)
       go_cut [33] (fun v33 wc=>∃(kq:Nat)(Vz:Bool),v33= .bool Vz∧ah (aI.j1 kq a0 mD tO eP Vz=some (r1,r2,r3))∧ah (kq≤k1)∧aT w wc)
       case first=>
        have H:=HC9.out
        clear HC9
        by_cases c10:eP<(a0.size:Int)
        ·rw[if_pos c10]at H
         have c10b0:=decide_eq_true c10
         clear c10
         (first|rw[c10b0]|rw[c10b1]|rw[c10b2]|(simp only[gI,iB];rw[c10b0])|skip)
         have H':=ah.mk H
         clear H
         go_wp2
         go_meet
         case rel=>exact⟨_,(decide (eP≤3)),zs,H',⟨by have:=jd.out;first|omega|exact Nat.le_refl _⟩,by repeat(first|exact aT.refl _|apply aT.step)⟩
        ·rw[if_neg c10]at H
         have c10b0:=decide_eq_false c10
         clear c10
         (first|rw[c10b0]|rw[c10b1]|rw[c10b2]|(simp only[gI,iB];rw[c10b0])|skip)
         have H':=ah.mk H
         clear H
         go_wp2
         go_meet
         case rel=>exact⟨_,(false),zs,H',⟨by have:=jd.out;first|omega|exact Nat.le_refl _⟩,by repeat(first|exact aT.refl _|apply aT.step)⟩
       case rest=>
        clear HC9
        try clear c1
        try clear p2
        try clear c3
        try clear c3b0
        try clear c3b1
        try clear c5
        try clear c5b0
        try clear c5b1
        try clear p6
        try clear q6
        try clear hx6
        try clear qi6
        try clear c7
        try clear c7b0
        try clear c7b1
        try clear c8
        try clear c8b0
        try clear c10
        try clear c10b0
        try clear c10b1
        try clear c10b2
        try clear p2
        try clear p6
        try clear q6
        obtain⟨kq,Vz,rfl,HA,HJ8,⟨mc8,rfl⟩⟩:=hcut
        cases kq with
        |zero=>exact absurd HA.out (by simp[aI.j1])
        |succ kj8=>
         have H:=HA.out
         clear HA
         simp only[aI.j1]at H
         by_cases c11:Vz=true
         ·subst c11
          rw[if_pos rfl]at H
          by_cases c12:0≤eP
          ·rw[if_pos c12]at H
           have c12b0:=decide_eq_true c12
           clear c12
           by_cases c13:eP<(a0.size:Int)
           ·rw[if_pos c13]at H
            have c13b0:=decide_eq_true c13
            clear c13
            by_cases c16:(bt a0 eP)<128
            ·rw[if_pos c16]at H
             have c16b0:=decide_eq_true c16
             clear c16
             by_cases c18:(bt a0 eP)=0
             ·rw[if_pos c18]at H
              have c18b0:((bt a0 eP)==0)=true:=beq_iff_eq.mpr c18
              have c18b1:((bt a0 eP) != 0)=false:=bne_eq_false_iff_eq.mpr c18
              clear c18
              by_cases c19:eP>1
              ·rw[if_pos c19]at H
               have c19b0:=decide_eq_true c19
               clear c19
               simp only[Option.some.injEq,Prod.mk.injEq]at H
               obtain⟨rfl,rfl,rfl⟩:=H
               have Oj:0≤(eP:Int):=of_decide_eq_true za
               have Ol:eP<(a0.size:Int):=of_decide_eq_true za
               have a1e:=fF a0 eP
               replace Oj:=eq_true Oj
               replace Ol:=eq_true Ol
               have Om:0≤(eP:Int):=of_decide_eq_true za
               have Oo:eP<(a0.size:Int):=of_decide_eq_true za
               have a1f:=fF a0 eP
               replace Om:=eq_true Om
               replace Oo:=eq_true Oo
               have Qz:0≤(eP:Int):=of_decide_eq_true za
               have Oq:eP<(a0.size:Int):=of_decide_eq_true za
               have a1g:=fF a0 eP
               replace Qz:=eq_true Qz
               replace Oq:=eq_true Oq
               go_wp2
               go_ret3
               exact⟨zs,by repeat(first|exact aT.refl _|apply aT.step)⟩
              ·rw[if_neg c19]at H
               have c19b0:=decide_eq_false c19
               clear c19
               by_cases c20:(wrap64 (mD+(wrap64 (tO*(Int.tmod (wrap64 (bt a0 eP)) 128)))))>9999
               ·rw[if_pos c20]at H
                have c20b0:=decide_eq_true c20
                clear c20
                simp only[Option.some.injEq,Prod.mk.injEq]at H
                obtain⟨rfl,rfl,rfl⟩:=H
                have Oj:0≤(eP:Int):=of_decide_eq_true za
                have Ol:eP<(a0.size:Int):=of_decide_eq_true za
                have a1e:=fF a0 eP
                replace Oj:=eq_true Oj
                replace Ol:=eq_true Ol
                have Om:0≤(eP:Int):=of_decide_eq_true za
                have Oo:eP<(a0.size:Int):=of_decide_eq_true za
                have a1f:=fF a0 eP
                replace Om:=eq_true Om
                replace Oo:=eq_true Oo
                have Qz:0≤(eP:Int):=of_decide_eq_true za
                have Oq:eP<(a0.size:Int):=of_decide_eq_true za
                have a1g:=fF a0 eP
                replace Qz:=eq_true Qz
                replace Oq:=eq_true Oq
                go_wp2
                go_ret3
                exact⟨zs,by repeat(first|exact aT.refl _|apply aT.step)⟩
               ·rw[if_neg c20]at H
                have c20b0:=decide_eq_false c20
                clear c20
                simp only[Option.some.injEq,Prod.mk.injEq]at H
                obtain⟨rfl,rfl,rfl⟩:=H
                have Oj:0≤(eP:Int):=of_decide_eq_true za
                have Ol:eP<(a0.size:Int):=of_decide_eq_true za
                have a1e:=fF a0 eP
                replace Oj:=eq_true Oj
                replace Ol:=eq_true Ol
                have Om:0≤(eP:Int):=of_decide_eq_true za
                have Oo:eP<(a0.size:Int):=of_decide_eq_true za
                have a1f:=fF a0 eP
                replace Om:=eq_true Om
                replace Oo:=eq_true Oo
                have Qz:0≤(eP:Int):=of_decide_eq_true za
                have Oq:eP<(a0.size:Int):=of_decide_eq_true za
                have a1g:=fF a0 eP
                replace Qz:=eq_true Qz
                replace Oq:=eq_true Oq
                go_wp2
                go_ret3
                exact⟨zs,by repeat(first|exact aT.refl _|apply aT.step)⟩
             ·rw[if_neg c18]at H
              have c18b0:((bt a0 eP)==0)=false:=beq_eq_false_iff_ne.mpr c18
              have c18b1:((bt a0 eP) != 0)=true:=bne_iff_ne.mpr c18
              by_cases c21:(wrap64 (mD+(wrap64 (tO*(Int.tmod (wrap64 (bt a0 eP)) 128)))))>9999
              ·rw[if_pos c21]at H
               have c21b0:=decide_eq_true c21
               clear c21
               simp only[Option.some.injEq,Prod.mk.injEq]at H
               obtain⟨rfl,rfl,rfl⟩:=H
               have Oj:0≤(eP:Int):=of_decide_eq_true za
               have Ol:eP<(a0.size:Int):=of_decide_eq_true za
               have a1e:=fF a0 eP
               replace Oj:=eq_true Oj
               replace Ol:=eq_true Ol
               have Om:0≤(eP:Int):=of_decide_eq_true za
               have Oo:eP<(a0.size:Int):=of_decide_eq_true za
               have a1f:=fF a0 eP
               replace Om:=eq_true Om
               replace Oo:=eq_true Oo
               have Qz:0≤(eP:Int):=of_decide_eq_true za
               have Oq:eP<(a0.size:Int):=of_decide_eq_true za
               have a1g:=fF a0 eP
               replace Qz:=eq_true Qz
               replace Oq:=eq_true Oq
               go_wp2
               go_ret3
               exact⟨zs,by repeat(first|exact aT.refl _|apply aT.step)⟩
              ·rw[if_neg c21]at H
               have c21b0:=decide_eq_false c21
               clear c21
               simp only[Option.some.injEq,Prod.mk.injEq]at H
               obtain⟨rfl,rfl,rfl⟩:=H
               have Oj:0≤(eP:Int):=of_decide_eq_true za
               have Ol:eP<(a0.size:Int):=of_decide_eq_true za
               have a1e:=fF a0 eP
               replace Oj:=eq_true Oj
               replace Ol:=eq_true Ol
               have Om:0≤(eP:Int):=of_decide_eq_true za
               have Oo:eP<(a0.size:Int):=of_decide_eq_true za
               have a1f:=fF a0 eP
               replace Om:=eq_true Om
               replace Oo:=eq_true Oo
               have Qz:0≤(eP:Int):=of_decide_eq_true za
               have Oq:eP<(a0.size:Int):=of_decide_eq_true za
               have a1g:=fF a0 eP
               replace Qz:=eq_true Qz
               replace Oq:=eq_true Oq
               go_wp2
               go_ret3
               exact⟨zs,by repeat(first|exact aT.refl _|apply aT.step)⟩
            ·rw[if_neg c16]at H
             have c16b0:=decide_eq_false c16
             clear c16
             have H':=ah.mk H
             clear H
             have Oj:0≤(eP:Int):=of_decide_eq_true za
             have Ol:eP<(a0.size:Int):=of_decide_eq_true za
             have a1e:=fF a0 eP
             replace Oj:=eq_true Oj
             replace Ol:=eq_true Ol
             have Om:0≤(eP:Int):=of_decide_eq_true za
             have Oo:eP<(a0.size:Int):=of_decide_eq_true za
             have a1f:=fF a0 eP
             replace Om:=eq_true Om
             replace Oo:=eq_true Oo
             go_wp2
             go_roundg kj8
             case measure=>have:=jd.out;have:=HJ8.out;omega
             case rel=>exact⟨(wrap64 (mD+(wrap64 (tO*(Int.tmod (wrap64 (bt a0 eP)) 128))))),(wrap64 (128*tO)),(wrap64 (eP+1)),zs,zs,zs,H',⟨by have:=jd.out;have:=HJ8.out;omega⟩,by repeat(first|exact aT.refl _|apply aT.step)⟩
           ·rw[if_neg c13]at H
            exact absurd H (by simp)
          ·rw[if_neg c12]at H
           exact absurd H (by simp)
         ·replace c11:=Bool.eq_false_iff.mpr c11
          subst c11
          rw[if_neg (show ¬(false=true) by decide)]at H
          simp only[Option.some.injEq,Prod.mk.injEq]at H
          obtain⟨rfl,rfl,rfl⟩:=H
          go_wp2
          go_ret3
          exact⟨zs,by repeat(first|exact aT.refl _|apply aT.step)⟩
  ·skip
   exact absurd H (by simp)
def kK.f(aH:List (bf))(aA:Int)(a1:Int):Option (ByteArray×ByteArray×Bool×Bool):=(ji.f aH aA).bind fun qp=>((cK.f a1 1 (qp.length:Int)).bind fun XG=>(if XG=true then(if 0≤(wrap64 (a1-1))then(if(wrap64 (a1-1))<(qp.length:Int)then(some ((aU qp (wrap64 (a1-1))).f0,(aU qp (wrap64 (a1-1))).f1,(aU qp (wrap64 (a1-1))).f2,true))else(none))else(none))else(some ((⟨#[]⟩:ByteArray),(⟨#[]⟩:ByteArray),false,false))))
theorem kK.calls(j4:Option Addr)(j5:Nat)(aH:List (bf))(aA:Int)(a1:Int)(r1:ByteArray)(r2:ByteArray)(r3:Bool)(r4:Bool)(w:World)(kT:Kd.C iH w j4 aH.length aH)(kU:aH.length≤j5)(h:kK.f aH aA a1=some (r1,r2,r3,r4)):
 Calls Tryz.prog 117 #[.agg #[.slice j4 aH.length j5,.int .i64 aA],.int .i64 a1] w fun e w'=>e= .returned (.tuple #[.agg #[.string r1,.string r2,.bool r3],.bool r4])∧Below w.heap.size w w':=by
 have Ab:=Tryz.underlying25
 have sN:=Tryz.underlying89
 have lM:=ah.mk kT
 have pO:=ah.mk kU
 clear kT kU
 have HB:=ah.mk (Below.refl w.heap.size w)
 have H:((ji.f aH aA).bind fun qp=>((cK.f a1 1 (qp.length:Int)).bind fun XG=>(if XG=true then(if 0≤(wrap64 (a1-1))then(if(wrap64 (a1-1))<(qp.length:Int)then(some ((aU qp (wrap64 (a1-1))).f0,(aU qp (wrap64 (a1-1))).f1,(aU qp (wrap64 (a1-1))).f2,true))else(none))else(none))else(some ((⟨#[]⟩:ByteArray),(⟨#[]⟩:ByteArray),false,false)))))=some (r1,r2,r3,r4):=h
 clear h
 obtain⟨qp,A3,H⟩:=ob H
 (try dsimp only at H)
 obtain⟨XG,A4,H⟩:=ob H
 (try dsimp only at H)
 have Z8:=ah.mk H
 clear H
 go_enter Tryz.func117,Tryz.ntmps117
 go_upto_if 13 with(first|((with_reducible refine gd 2 rfl ?_);refine bx (N:=2) (cs:=#[.slice j4 aH.length j5,.int .i64 aA]) (t:=25) ?_;intro aMv hg w6 hbox hb;have IC:=ah.mk (hbox);have anj:=gw HB hg;have aMw:=anj;replace HB:=ah.mk (ai (zb HB) hb);clear hb hbox hg)|((with_reducible refine gd 4 rfl ?_);refine bx (N:=4) (cs:=#[.string (⟨#[]⟩:ByteArray),.string (⟨#[]⟩:ByteArray),.bool false]) (t:=89) ?_;intro acV hg w7 hbox hb;have Ga:=ah.mk (hbox);have ank:=gw HB hg;have aMx:=ank;replace HB:=ah.mk (ai (zb HB) hb);obtain⟨BV,BZ⟩:=nb IC hg;replace IC:=kb IC hb;clear hb hbox hg;have alk:=BV.out;have alm:=BZ.out;obtain⟨yM,yN,yO,yP⟩:=c2 IC)|((with_reducible refine gq 108 rfl ?_);refine gl (some 8) Tryz.func108 #[.agg #[.slice j4 aH.length j5,.int .i64 aA]] ?_;(with_reducible refine(ji.calls _ _ aH aA qp _ ?aN ?aQ A3.out).mono ?_);(case aN=>exact zc (Kd.C_below lM.out HB.out));(case aQ=>exact pO.out);rintro e w10 ⟨aQW,rfl,ho0,hb⟩;refine⟨_,rfl,?_⟩;have acW:=ah.mk (Kd.R_lower (Kd.R_newB ho0 (zk Ga)) (aJ (zb HB)));replace IC:=kb IC hb;replace Ga:=kb Ga hb;replace HB:=ah.mk (ai (zb HB) hb);(try clear hb);(try clear ho0);obtain⟨a9j,a9k,a1h⟩:=Kd.R_slice acW.out;subst a1h)|((with_reducible refine gq 44 rfl ?_);refine gl (some 12) Tryz.func44 #[.int .i64 a1,.int .i64 1,.int .i64 (qp.length:Int)] ?_;(with_reducible refine(cK.calls a1 1 (qp.length:Int) XG _ A4.out).mono ?_);rintro e w' ⟨rfl,⟨nd,rfl⟩⟩;refine⟨_,rfl,?_⟩))
 (try simp only[Act.put,s1,s2,s3])
 have H:=Z8.out
 clear Z8
 by_cases c12:XG=true
 ·subst c12
  rw[if_pos rfl]at H
  obtain⟨C8,VA⟩:∃j_:Int,(wrap64 (a1-1))=j_:=⟨_,rfl⟩
  replace H:(if 0≤(C8)then(if(C8)<(qp.length:Int)then(some ((aU qp (C8)).f0,(aU qp (C8)).f1,(aU qp (C8)).f2,true))else(none))else(none))=some (r1,r2,r3,r4):=by first|(rw[VA]at H;exact H)|(simp only[VA]at H ⊢;exact H)
  have hji13w:(IntKind.i64.wrap (a1-1))=C8:=(gI _).trans VA
  replace H:=sp H
  rcases H with⟨c14,H⟩|⟨c14,H⟩
  ·skip
   have c14b0:=decide_eq_true c14
   clear c14
   (first|rw[c14b0]|rw[c14b1]|rw[c14b2]|(simp only[gI,iB];rw[c14b0])|skip)
   by_cases c15:(C8)<(qp.length:Int)
   ·rw[if_pos c15]at H
    have c15b0:=decide_eq_true c15
    clear c15
    simp only[Option.some.injEq,Prod.mk.injEq]at H
    obtain⟨rfl,rfl,rfl,rfl⟩:=H
    have ag4:0≤((C8):Int):=of_decide_eq_true za
    have ag5:(C8)<(qp.length:Int):=of_decide_eq_true za
    obtain⟨aMy,aDr,avj,avk,avl⟩:=eT (Kd.R_reads' acW.out).2.2 (C8) ag4 ag5
    cases aDr
    replace ag4:=eq_true ag4
    replace ag5:=eq_true ag5
    have a1a:=BZ.out
    have a1b:=BV.out
    obtain⟨xu,xw,Kn,xA,xB,Ko⟩:=c3 Ga
    go_wp2
    refine bodyPost_ret (nG rfl _ _ acV 89 #[.string ((aU qp (C8)).f0),.string ((aU qp (C8)).f1),.bool ((aU qp (C8)).f2)] (0,0) _ rfl (zp Ga) Tryz.underlying89 rfl (by kernel_rfl)) rfl ?_
    exact⟨by first|rfl|(simp[gY,gZ]<;>rfl)|(simp only[←VA];first|rfl|(simp[gY,gZ]<;>rfl))|(simp[*,gY,gZ]<;>rfl)|(simp[gY,gZ];exact(by intro l_;cases l_<;>rfl:∀l_:List UInt8,l_.isEmpty= !(l_ != [])) _),zb HB⟩
   ·rw[if_neg c15]at H
    exact absurd H (by simp)
  ·skip
   exact absurd H (by simp)
 ·replace c12:=Bool.eq_false_iff.mpr c12
  subst c12
  rw[if_neg (show ¬(false=true) by decide)]at H
  simp only[Option.some.injEq,Prod.mk.injEq]at H
  obtain⟨rfl,rfl,rfl,rfl⟩:=H
  have acB:=BZ.out
  have acC:=BV.out
  obtain⟨UN,UO,UQ,UR,UU,UW⟩:=c3 Ga
  go_wp2
  refine bodyPost_ret (nG rfl _ _ acV 89 #[.string (⟨#[]⟩:ByteArray),.string (⟨#[]⟩:ByteArray),.bool false] (0,0) _ rfl (zp Ga) Tryz.underlying89 rfl (by kernel_rfl)) rfl ?_
  exact⟨ze,zb HB⟩
mutual
def av.l0:Nat→ByteArray→List Int→Int→Option (ByteArray×Bool)
 |0,_,_,_=>none
 |k+1,x0,x4,x5=>if x5<(x0.size:Int)then(if 0≤x5 then((bG.f k (wrap64 (bt x0 x5)) 8).bind fun Ot=>(if x4.length+Ot.length<17592186044416 then(av.l0 k x0 (x4++Ot) (wrap64 (x5+1)))else(none)))else(none))else(av.l1 k x4 (⟨#[]⟩:ByteArray))
def av.j2:Nat→List Int→ByteArray→Option (ByteArray×Bool)
 |0,_,_=>none
 |k+1,x4,x6=>av.l2 k x4 x6 true 0
def av.l2:Nat→List Int→ByteArray→Bool→Int→Option (ByteArray×Bool)
 |0,_,_,_,_=>none
 |k+1,x4,x6,x9,x10=>if x10<(x4.length:Int)then(if x9=true then(if 0≤x10 then(av.l2 k x4 x6 ((rd x4 x10)==1) (wrap64 (x10+1)))else(none))else(av.l2 k x4 x6 false (wrap64 (x10+1))))else(if x9=true then(if(x4.length:Int)<8 then(some (x6,decide ((x6.size:Int)≤16)))else(some (x6,false)))else(some (x6,false)))
def av.l1:Nat→List Int→ByteArray→Option (ByteArray×Bool)
 |0,_,_=>none
 |k+1,x4,x6=>if(x4.length:Int)≥5 then(if 5≤(x4.length:Int)then((bT.f k (x4.take 5)).bind fun qa=>(if qa≥24 then(if(x4.length:Int)<7 then(av.j2 k x4 x6)else(if 7≤(x4.length:Int)then((bT.f k (x4.take 7)).bind fun uS=>(if(wrap64 ((wrap64 (uS-96))+24))≥39 then(av.j2 k x4 x6)else(if 0≤(wrap64 ((wrap64 (uS-96))+24))then(if(wrap64 ((wrap64 (uS-96))+24))<39 then((bR.f (wrap64 (bt (⟨#[101,116,97,111,105,110,115,114,104,108,48,49,50,51,52,53,54,55,56,57,100,99,117,109,102,112,103,119,121,98,118,107,120,106,113,122,58,47,45]⟩:ByteArray) (wrap64 ((wrap64 (uS-96))+24))))).bind fun wF=>(if x6.size+wF.size≤9223372036854775807 then(av.l1 k (x4.drop (7:Int).toNat) (x6++wF))else(none)))else(none))else(none))))else(none)))else(if qa≥39 then(av.j2 k x4 x6)else(if 0≤qa then(if qa<39 then((bR.f (wrap64 (bt (⟨#[101,116,97,111,105,110,115,114,104,108,48,49,50,51,52,53,54,55,56,57,100,99,117,109,102,112,103,119,121,98,118,107,120,106,113,122,58,47,45]⟩:ByteArray) qa))).bind fun Gb=>(if x6.size+Gb.size≤9223372036854775807 then(av.l1 k (x4.drop (5:Int).toNat) (x6++Gb))else(none)))else(none))else(none)))))else(none))else(av.j2 k x4 x6)
end
def av.f(k:Nat)(a0:ByteArray):Option (ByteArray×Bool):=av.l0 k a0 (([]:List Int)) 0
theorem av.mono_l:∀k,(∀y0 y1 y2,gM (av.l0 k y0 y1 y2) (av.l0 (k+1) y0 y1 y2))∧(∀y0 y1,gM (av.j2 k y0 y1) (av.j2 (k+1) y0 y1))∧(∀y0 y1 y2 y3,gM (av.l2 k y0 y1 y2 y3) (av.l2 (k+1) y0 y1 y2 y3))∧(∀y0 y1,gM (av.l1 k y0 y1) (av.l1 (k+1) y0 y1))
 |0=>⟨fun _ _ _ r h=>by simp[av.l0]at h,fun _ _ r h=>by simp[av.j2]at h,fun _ _ _ _ r h=>by simp[av.l2]at h,fun _ _ r h=>by simp[av.l1]at h⟩
 |k+1=>by
  obtain⟨mW,ih1,ih2,ih3⟩:=av.mono_l k
  refine⟨?_,?_,?_,?_⟩
  ·intro y0 y1 y2
   unfold av.l0
   have m0:=@bG.mono
   have m1:=@bT.mono
   exact zm
  ·intro y0 y1
   unfold av.j2
   have m0:=@bG.mono
   have m1:=@bT.mono
   exact zm
  ·intro y0 y1 y2 y3
   unfold av.l2
   have m0:=@bG.mono
   have m1:=@bT.mono
   exact zm
  ·intro y0 y1
   unfold av.l1
   have m0:=@bG.mono
   have m1:=@bT.mono
   exact zm
theorem av.mono:∀a0 k,gM (av.f k a0) (av.f (k+1) a0):=by
 intro a0 k
 obtain⟨mW,ih1,ih2,ih3⟩:=av.mono_l k
 unfold av.f
 have m0:=@bG.mono
 have m1:=@bT.mono
 exact zm
theorem av.calls(k:Nat)(a0:ByteArray)(r1:ByteArray)(r2:Bool)(w:World)(h:av.f k a0=some (r1,r2)):
 Calls Tryz.prog 124 #[.string a0] w fun e w'=>e= .returned (.tuple #[.string r1,.bool r2])∧Below w.heap.size w w':=by
 have HB:=ah.mk (Below.refl w.heap.size w)
 have H:(av.l0 k a0 (([]:List Int)) 0)=some (r1,r2):=h
 clear h
 obtain⟨anl,Ou⟩:∃y_:List Int,y_=(([]:List Int)):=⟨_,rfl⟩
 replace H:(av.l0 k a0 anl 0)=some (r1,r2):=by first|(rw[Ou];with_reducible exact H)|(have fH:=(Option.bind_some _ _).symm.trans H;rw[Ou];with_reducible exact fH)|(have fH:=(Option.bind_some _ _).symm.trans H;with_reducible exact fH)|with_reducible exact H|(rw[Ou];exact H)|exact H
 have acX:=ah.mk Ou
 clear Ou
 have H':=ah.mk H
 clear H
 go_enter Tryz.func124,Tryz.ntmps124
 go_wp2_with (first|((with_reducible refine gd 11 rfl ?_);(try(refine ay (by rfl) ?_;dsimp only));refine Kd.R_lit (Kd.int .i64) _ 3 ?hg (N:=11) ?hd (xs:=([]:List Int)) (inner:=[]) (ok:=fun _=>True) (okp:=fun _=>True) ?hr ?hp (fun _ hk=>hk) trivial (Below.refl _ _) (Nat.le_refl _) (by simp) ?_;(case hd=>rfl);(case hg=>rfl);(case hr=>first|(go_simp;done)|(go_simp;rfl));(case hp=>exact(dm.none _ _));intro aQX w2 ho3 hb nL fM;clear nL fM;(first|rw[←acX.out]at ho3|(simp only[Int.reduceToNat]at ho3;rw[←acX.out]at ho3));have anm:=ah.mk (Kd.R_lower ho3 (aJ (zb HB)));replace HB:=ah.mk (ai (zb HB) hb);clear hb ho3))
 go_loopg [4,5] k (fun kq v4 v5 w'=>∃(eB:List Int)(fP:Int),v5= .int .i64 fP∧ah (av.l0 kq a0 eB fP=some (r1,r2))∧ah (kq≤k)∧ah (Kd.R (Kd.int .i64) 3 w' w.heap.size (fun _=>True) v4 eB)∧ah (Below w.heap.size w w'))
 case atStart=>exact⟨(anl),(0),zs,H',⟨Nat.le_refl _⟩,⟨by exact zr anm⟩,⟨zb HB⟩⟩
 case round=>
  clear H'
  try clear c1
  try clear p2
  obtain⟨eB,fP,rfl,HA,jd,HO_4,HB⟩:=hrel
  cases gk with
  |zero=>exact absurd HA.out (by simp[av.l0])
  |succ k1=>
   have H:=HA.out
   clear HA
   simp only[av.l0]at H
   replace H:=sp H
   rcases H with⟨c4,H⟩|⟨c4,H⟩
   ·skip
    have c4b0:=decide_eq_true c4
    clear c4
    by_cases c5:0≤fP
    ·rw[if_pos c5]at H
     have c5b0:=decide_eq_true c5
     clear c5
     obtain⟨Ot,A7,H⟩:=ob H
     (try dsimp only at H)
     by_cases c8:eB.length+Ot.length<17592186044416
     ·rw[if_pos c8]at H
      have aDs:=ah.mk c8
      clear c8
      obtain⟨ann,Ov⟩:∃y_:List Int,y_=(eB++Ot):=⟨_,rfl⟩
      replace H:(av.l0 k1 a0 ann (wrap64 (fP+1)))=some (r1,r2):=by first|(rw[Ov];with_reducible exact H)|(have fH:=(Option.bind_some _ _).symm.trans H;rw[Ov];with_reducible exact fH)|(have fH:=(Option.bind_some _ _).symm.trans H;with_reducible exact fH)|with_reducible exact H|(rw[Ov];exact H)|exact H
      have ano:=ah.mk Ov
      clear Ov
      have H':=ah.mk H
      clear H
      have p6:0≤(fP:Int):=of_decide_eq_true za
      have q6:fP<(a0.size:Int):=of_decide_eq_true za
      have hx6:=fF a0 fP
      replace p6:=eq_true p6
      replace q6:=eq_true q6
      go_wp2_with (first|((with_reducible refine gq 114 rfl ?_);refine gl (some 23) Tryz.func114 #[.int .i64 (wrap64 (bt a0 fP)),.int .i64 8] ?_;(with_reducible refine(bG.calls k1 (wrap64 (bt a0 fP)) 8 Ot _ A7.out).mono ?_);rintro e w9 ⟨aQY,rfl,ho0,hb⟩;refine⟨_,rfl,?_⟩;have Ow:=ah.mk (Kd.R_lower (Kd.R_new' ho0 (Kd.R_lt (zr HO_4))) (aJ (zb HB)));replace HO_4:=ah.mk (Kd.R_elder' (zr HO_4) (Kd.R_base ho0) hb);replace HB:=ah.mk (ai (zb HB) hb);(try clear hb);(try clear ho0);obtain⟨a9j,a9k,a1h⟩:=Kd.R_slice Ow.out;subst a1h)|((with_reducible refine kY (b:=.append) (xs:=#[.tmp 18,.tmp 23]) rfl ?_);(try(refine ay (by rfl) ?_;dsimp only));at_builtin;refine Kd.R_append_rows (Kd.int .i64) (w0:=w) w.heap.size rfl (.tmp 18) (.tmp 23) 91 3 (.int .i64 0) 8 rfl Tryz.underlying91 info3 rfl (by decide) (by omega) u4 eB Ot _ _ _ (fun k_=>some k_≠(.slice a9j Ot.length a9k:Value).ownBlock) (fun _=>False) rfl rfl ?aO ?aR (fun _ _ h=>h) (fun _ h=>h.elim) ?aF ?aB ?aS ?aL ?_;(case aR=>exact zc (Kd.R_reads' Ow.out).2.2);(case aB=>exact(zb HB));(case aF=>exact(fun k_ hk=>Kd.fresh' (Kd.R_lt (zr Ow)) k_ hk));(case aO=>exact(zq (Kd.R_mono HO_4.out (fun _ hk=>hk.2))));(case aS=>exact(aJ (zb HB)));(case aL=>have:=aDs.out;omega);intro aQZ w10 ho hb hg hat;rw[←ano.out]at ho;replace Ow:=ah.mk (Kd.R_after (ok:=(fun _=>True)) (zr Ow) hg hat);replace HB:=ah.mk (hb);have anp:=ah.mk (ho);clear HO_4;clear ho hb hg hat))
      go_roundg k1
      case measure=>have:=jd.out;omega
      case rel=>exact⟨(ann),(wrap64 (fP+1)),zs,H',⟨by have:=jd.out;omega⟩,⟨zq (Kd.R_mono anp.out (fun _ hk=>trivial))⟩,⟨zb HB⟩⟩
     ·rw[if_neg c8]at H
      exact absurd H (by simp)
    ·rw[if_neg c5]at H
     exact absurd H (by simp)
   ·skip
    have c4b0:=decide_eq_false c4
    clear c4
    have ag6:=ah.mk H
    clear H
    go_upto_block 2 with(fail)
    go_cut [4,6] (fun v4 v6 wc=>∃(kq:Nat)(Gc:List Int)(VB:ByteArray),v6= .string VB∧ah (av.j2 kq Gc VB=some (r1,r2))∧ah (kq≤k1)∧ah (Kd.Q (Kd.int .i64) 3 wc w.heap.size (fun _=>True) v4 Gc)∧ah (Below w.heap.size w wc))
    case first=>
     have H:=ag6.out
     clear ag6
     have H':=ah.mk H
     clear H
     go_wp2
     go_loopg [4,6] k1 (fun kq v4 v6 w'=>∃(iF:List Int)(oN:ByteArray),v6= .string oN∧ah (av.l1 kq iF oN=some (r1,r2))∧ah (kq≤k1)∧ah (Kd.Q (Kd.int .i64) 3 w' w.heap.size (fun _=>True) v4 iF)∧ah (Below w.heap.size w w'))
     case atStart=>exact⟨(eB),((⟨#[]⟩:ByteArray)),zs,H',⟨Nat.le_refl _⟩,⟨Kd.Q_of_R (zr HO_4)⟩,⟨zb HB⟩⟩
     case round=>
      clear H'
      try clear c1
      try clear p2
      try clear c4
      try clear c4b0
      try clear c5
      try clear c5b0
      try clear p6
      try clear q6
      try clear hx6
      try clear c8
      try clear c11
      try clear c12
      try clear p2
      try clear p6
      try clear q6
      obtain⟨iF,oN,rfl,HA,MB,HO_4,HB⟩:=hrel
      cases gk with
      |zero=>exact absurd HA.out (by simp[av.l1])
      |succ k2=>
       have H:=HA.out
       clear HA
       simp only[av.l1]at H
       replace H:=sp H
       rcases H with⟨c13,H⟩|⟨c13,H⟩
       ·skip
        have c13b0:=decide_eq_true c13
        have c13b1:=decide_eq_true (by omega)
        clear c13
        (first|rw[c13b0]|rw[c13b1]|rw[c13b2]|(simp only[gI,iB];rw[c13b0])|skip)
        by_cases c14:5≤(iF.length:Int)
        ·rw[if_pos c14]at H
         have c14b0:=eq_true c14
         have c14b1:=decide_eq_true c14
         clear c14
         obtain⟨wG,Ox⟩:∃y_:List Int,y_=(iF.take 5):=⟨_,rfl⟩
         replace H:((bT.f k2 wG).bind fun qa=>(if qa≥24 then(if(iF.length:Int)<7 then(av.j2 k2 iF oN)else(if 7≤(iF.length:Int)then((bT.f k2 (iF.take 7)).bind fun uS=>(if(wrap64 ((wrap64 (uS-96))+24))≥39 then(av.j2 k2 iF oN)else(if 0≤(wrap64 ((wrap64 (uS-96))+24))then(if(wrap64 ((wrap64 (uS-96))+24))<39 then((bR.f (wrap64 (bt (⟨#[101,116,97,111,105,110,115,114,104,108,48,49,50,51,52,53,54,55,56,57,100,99,117,109,102,112,103,119,121,98,118,107,120,106,113,122,58,47,45]⟩:ByteArray) (wrap64 ((wrap64 (uS-96))+24))))).bind fun wF=>(if oN.size+wF.size≤9223372036854775807 then(av.l1 k2 (iF.drop (7:Int).toNat) (oN++wF))else(none)))else(none))else(none))))else(none)))else(if qa≥39 then(av.j2 k2 iF oN)else(if 0≤qa then(if qa<39 then((bR.f (wrap64 (bt (⟨#[101,116,97,111,105,110,115,114,104,108,48,49,50,51,52,53,54,55,56,57,100,99,117,109,102,112,103,119,121,98,118,107,120,106,113,122,58,47,45]⟩:ByteArray) qa))).bind fun Gb=>(if oN.size+Gb.size≤9223372036854775807 then(av.l1 k2 (iF.drop (5:Int).toNat) (oN++Gb))else(none)))else(none))else(none)))))=some (r1,r2):=by first|(rw[Ox];with_reducible exact H)|(have fH:=(Option.bind_some _ _).symm.trans H;rw[Ox];with_reducible exact fH)|(have fH:=(Option.bind_some _ _).symm.trans H;with_reducible exact fH)|with_reducible exact H|(rw[Ox];exact H)|exact H
         have Dt:=ah.mk Ox
         clear Ox
         obtain⟨qa,Yv,H⟩:=ob H
         (try dsimp only at H)
         by_cases c16:qa≥24
         ·rw[if_pos c16]at H
          have c16b0:=decide_eq_true c16
          clear c16
          by_cases c17:(iF.length:Int)<7
          ·rw[if_pos c17]at H
           have c17b0:=decide_eq_true c17
           have c17b1:=decide_eq_true (by omega)
           clear c17
           have H':=ah.mk H
           clear H
           obtain⟨E5,BU,O9,_⟩:=Kd.Q_slice HO_4.out
           subst O9
           have q19:(5:Int)≤((iF.length:Int):Int):=of_decide_eq_true za
           obtain⟨aR0,acY,_,anq,_⟩:=info_parts info3
           have hroom19:iF.length≤BU:=(Kd.Q_reads' HO_4.out).2.1
           have anr:Kd.C (Kd.int .i64) _ E5 iF.length iF:=(Kd.Q_reads' HO_4.out).2.2
           have ag7:=BA (P:=Tryz.prog) 91 3 .i64 Tryz.underlying91 acY E5 iF.length BU 5 (by omega) q19 hroom19
           have ag8:=Kd.C_take (m:=5) anr (by omega)
           have ag9:wG.length=(5:Int).toNat:=(by rw[Dt.out,List.length_take];omega)
           rw[←Dt.out]at ag8
           rw[←ag9]at ag7
           have wH:=ah.mk ag8
           have Gd:=ah.mk (show wG.length≤BU from by omega)
           clear ag8 anr hroom19 acY anq
           have aR1:=ah.mk ag9
           clear ag9
           have aR2:=ah.mk (show 5≤iF.length from by omega)
           replace q19:=eq_true q19
           go_wp2_with (first|((with_reducible refine gq 115 rfl ?_);refine gl (some 30) Tryz.func115 #[.slice E5 wG.length BU] ?_;(with_reducible refine(bT.calls k2 _ _ wG qa _ ?aN ?aQ Yv.out).mono ?_);(case aN=>exact zc wH.out);(case aQ=>exact Gd.out);rintro e w' ⟨rfl,⟨nd,rfl⟩⟩;refine⟨_,rfl,?_⟩))
           go_meet
           case rel=>exact⟨_,(iF),(oN),zs,H',⟨by have:=jd.out;have:=MB.out;first|omega|exact Nat.le_refl _⟩,⟨by(with_reducible repeat(first|apply Kd.Q_alloc|apply Kd.Q_drewN|apply Kd.Q_drew));exact HO_4.out⟩,⟨zb HB⟩⟩
          ·rw[if_neg c17]at H
           have c17b0:=decide_eq_false c17
           have c17b1:=decide_eq_false (by omega)
           clear c17
           by_cases c20:7≤(iF.length:Int)
           ·rw[if_pos c20]at H
            have c20b0:=eq_true c20
            have c20b1:=decide_eq_true c20
            clear c20
            obtain⟨a1i,Oy⟩:∃y_:List Int,y_=(iF.take 7):=⟨_,rfl⟩
            replace H:((bT.f k2 a1i).bind fun uS=>(if(wrap64 ((wrap64 (uS-96))+24))≥39 then(av.j2 k2 iF oN)else(if 0≤(wrap64 ((wrap64 (uS-96))+24))then(if(wrap64 ((wrap64 (uS-96))+24))<39 then((bR.f (wrap64 (bt (⟨#[101,116,97,111,105,110,115,114,104,108,48,49,50,51,52,53,54,55,56,57,100,99,117,109,102,112,103,119,121,98,118,107,120,106,113,122,58,47,45]⟩:ByteArray) (wrap64 ((wrap64 (uS-96))+24))))).bind fun wF=>(if oN.size+wF.size≤9223372036854775807 then(av.l1 k2 (iF.drop (7:Int).toNat) (oN++wF))else(none)))else(none))else(none))))=some (r1,r2):=by first|(rw[Oy];with_reducible exact H)|(have fH:=(Option.bind_some _ _).symm.trans H;rw[Oy];with_reducible exact fH)|(have fH:=(Option.bind_some _ _).symm.trans H;with_reducible exact fH)|with_reducible exact H|(rw[Oy];exact H)|exact H
            have acZ:=ah.mk Oy
            clear Oy
            obtain⟨uS,A21,H⟩:=ob H
            (try dsimp only at H)
            have a1j:=ah.mk H
            clear H
            obtain⟨wI,uT,aga,_⟩:=Kd.Q_slice HO_4.out
            subst aga
            have q24:(5:Int)≤((iF.length:Int):Int):=of_decide_eq_true za
            obtain⟨aR3,ad1,_,ant,_⟩:=info_parts info3
            have hroom24:iF.length≤uT:=(Kd.Q_reads' HO_4.out).2.1
            have anu:Kd.C (Kd.int .i64) _ wI iF.length iF:=(Kd.Q_reads' HO_4.out).2.2
            have agb:=BA (P:=Tryz.prog) 91 3 .i64 Tryz.underlying91 ad1 wI iF.length uT 5 (by omega) q24 hroom24
            have agc:=Kd.C_take (m:=5) anu (by omega)
            have hy24:wG.length=(5:Int).toNat:=(by rw[Dt.out,List.length_take];omega)
            rw[←Dt.out]at agc
            rw[←hy24]at agb
            have wH:=ah.mk agc
            have Gd:=ah.mk (show wG.length≤uT from by omega)
            clear agc anu hroom24 ad1 ant
            have aR4:=ah.mk hy24
            clear hy24
            have aR5:=ah.mk (show 5≤iF.length from by omega)
            replace q24:=eq_true q24
            go_upto_if 42 with(first|((with_reducible refine gq 115 rfl ?_);refine gl (some 30) Tryz.func115 #[.slice wI wG.length uT] ?_;(with_reducible refine(bT.calls k2 _ _ wG qa _ ?aN ?aQ Yv.out).mono ?_);(case aN=>exact zc wH.out);(case aQ=>exact Gd.out);rintro e w' ⟨rfl,⟨nd,rfl⟩⟩;refine⟨_,rfl,?_⟩;have q25:(7:Int)≤((iF.length:Int):Int):=of_decide_eq_true za;obtain⟨aR6,ad2,_,anv,_⟩:=info_parts info3;have hroom25:iF.length≤uT:=(Kd.Q_reads' HO_4.out).2.1;have anw:Kd.C (Kd.int .i64) _ wI iF.length iF:=(Kd.Q_reads' HO_4.out).2.2;have agf:=BA (P:=Tryz.prog) 91 3 .i64 Tryz.underlying91 ad2 wI iF.length uT 7 (by omega) q25 hroom25;have agh:=Kd.C_take (m:=7) anw (by omega);have hy25:a1i.length=(7:Int).toNat:=(by rw[acZ.out,List.length_take];omega);rw[←acZ.out]at agh;rw[←hy25]at agf;have a1k:=ah.mk agh;have anx:=ah.mk (show a1i.length≤uT from by omega);clear agh anw hroom25 ad2 anv;have aR7:=ah.mk hy25;clear hy25;have aR8:=ah.mk (show 7≤iF.length from by omega);replace q25:=eq_true q25)|((with_reducible refine gq 115 rfl ?_);refine gl (some 38) Tryz.func115 #[.slice wI a1i.length uT] ?_;(with_reducible refine(bT.calls k2 _ _ a1i uS _ ?aN ?aQ A21.out).mono ?_);(case aN=>exact zc a1k.out);(case aQ=>exact anx.out);rintro e w' ⟨rfl,⟨nd,rfl⟩⟩;refine⟨_,rfl,?_⟩))
            (try simp only[Act.put,s1,s2,s3])
            have H:=a1j.out
            clear a1j
            by_cases KY:(wrap64 ((wrap64 (uS-96))+24))≥39
            ·rw[if_pos KY]at H
             have c26b0:=decide_eq_true KY
             clear KY
             (first|rw[c26b0]|rw[c26b1]|rw[c26b2]|(simp only[gI,iB];rw[c26b0])|skip)
             have H':=ah.mk H
             clear H
             go_wp2
             go_meet
             case rel=>exact⟨_,(iF),(oN),zs,H',⟨by have:=jd.out;have:=MB.out;first|omega|exact Nat.le_refl _⟩,⟨by(with_reducible repeat(first|apply Kd.Q_alloc|apply Kd.Q_drewN|apply Kd.Q_drew));exact HO_4.out⟩,⟨zb HB⟩⟩
            ·rw[if_neg KY]at H
             have c26b0:=decide_eq_false KY
             clear KY
             (first|rw[c26b0]|rw[c26b1]|rw[c26b2]|(simp only[gI,iB];rw[c26b0])|skip)
             obtain⟨Gf,Oz⟩:∃j_:Int,(wrap64 ((wrap64 (uS-96))+24))=j_:=⟨_,rfl⟩
             replace H:(if 0≤(Gf)then(if(Gf)<39 then((bR.f (wrap64 (bt (⟨#[101,116,97,111,105,110,115,114,104,108,48,49,50,51,52,53,54,55,56,57,100,99,117,109,102,112,103,119,121,98,118,107,120,106,113,122,58,47,45]⟩:ByteArray) (Gf)))).bind fun wF=>(if oN.size+wF.size≤9223372036854775807 then(av.l1 k2 (iF.drop (7:Int).toNat) (oN++wF))else(none)))else(none))else(none))=some (r1,r2):=by first|(rw[Oz]at H;exact H)|(simp only[Oz]at H ⊢;exact H)
             (try rw[Oz]at c26b0)
             have hji27w:(IntKind.i64.wrap ((wrap64 (uS-96))+24))=Gf:=(gI _).trans Oz
             by_cases c28:0≤(Gf)
             ·rw[if_pos c28]at H
              have c28b0:=decide_eq_true c28
              clear c28
              by_cases N9:(Gf)<39
              ·rw[if_pos N9]at H
               have c29b0:=decide_eq_true N9
               clear N9
               obtain⟨wF,A31,H⟩:=ob H
               (try dsimp only at H)
               by_cases c32:oN.size+wF.size≤9223372036854775807
               ·rw[if_pos c32]at H
                have c32b0:=eq_true c32
                have c32b1:=decide_eq_true c32
                try have c32b2:(9223372036854775807<oN.size+wF.size)=False:=eq_false (Nat.not_lt.2 c32)
                have c33b0:=eq_true (of_decide_eq_true za:7≤(iF.length:Int))
                obtain⟨XH,OA⟩:∃y_:List Int,y_=(iF.drop (7:Int).toNat):=⟨_,rfl⟩
                replace H:(av.l1 k2 XH (oN++wF))=some (r1,r2):=by first|(rw[OA];with_reducible exact H)|(have fH:=(Option.bind_some _ _).symm.trans H;rw[OA];with_reducible exact fH)|(have fH:=(Option.bind_some _ _).symm.trans H;with_reducible exact fH)|with_reducible exact H|(rw[OA];exact H)|exact H
                have ad4:=ah.mk OA
                clear OA
                have H':=ah.mk H
                clear H
                have p30:0≤((Gf):Int):=of_decide_eq_true za
                have q30:(Gf)<(39:Int):=of_decide_eq_true za
                have anz:=fF (⟨#[101,116,97,111,105,110,115,114,104,108,48,49,50,51,52,53,54,55,56,57,100,99,117,109,102,112,103,119,121,98,118,107,120,106,113,122,58,47,45]⟩:ByteArray) (Gf)
                replace p30:=eq_true p30
                replace q30:=eq_true q30
                go_wp2_with (first|((with_reducible refine gq 59 rfl ?_);refine QE (some 47) rfl rfl Tryz.func59 (by kernel_rfl) rfl #[.int .i64 (wrap64 (bt (⟨#[101,116,97,111,105,110,115,114,104,108,48,49,50,51,52,53,54,55,56,57,100,99,117,109,102,112,103,119,121,98,118,107,120,106,113,122,58,47,45]⟩:ByteArray) (Gf)))] rfl (by(try simp only[List.map_toArray,List.map_cons,List.map_nil]);first|done|(simp only[Oz];rfl)|rfl|(simp only[List.length_drop,List.length_take];rfl)) ?_;(with_reducible refine(bR.calls (wrap64 (bt (⟨#[101,116,97,111,105,110,115,114,104,108,48,49,50,51,52,53,54,55,56,57,100,99,117,109,102,112,103,119,121,98,118,107,120,106,113,122,58,47,45]⟩:ByteArray) (Gf))) wF _ A31.out).mono ?_);rintro e Mw ⟨rfl,hb⟩;refine⟨_,rfl,?_⟩;replace HO_4:=ah.mk (Kd.Q_below (by(with_reducible repeat(first|apply Kd.Q_alloc|apply Kd.Q_drewN|apply Kd.Q_drew));exact HO_4.out) hb);replace wH:=ah.mk (Kd.C_below (zc wH.out) hb);replace a1k:=ah.mk (Kd.C_below (zc a1k.out) hb);replace HB:=ah.mk (ai (zb HB) hb);(try clear hb);have q35:(7:Int)≤((iF.length:Int):Int):=of_decide_eq_true za;obtain⟨aR9,ad5,_,ad6,_⟩:=info_parts info3;have agj:=MH (P:=Tryz.prog) 91 3 .i64 Tryz.underlying91 ad5 1 ad6 wI iF.length uT 7 (by omega) q35;have a1l:=Kd.Q_drop (k:=(7:Int).toNat) HO_4.out (by omega);obtain⟨A35,a9l⟩:∃A1,A1=(if uT=(7:Int).toNat then wI else(wI:Option Addr).map (·.add ((7:Int).toNat*1))):=⟨_,rfl⟩;obtain⟨Qy,agk⟩:∃c1,c1=uT-(7:Int).toNat:=⟨_,rfl⟩;have agl:XH.length=iF.length-(7:Int).toNat:=(by rw[ad4.out,List.length_drop]);rw[←ad4.out]at a1l;rw[←agl,←a9l,←agk]at agj;replace a1l:Kd.Q (Kd.int .i64) 3 Mw w.heap.size (fun _=>True) (.slice A35 XH.length Qy) XH:=(by rw[a9l,agk,agl];exact a1l);have aRa:ah ((Value.slice A35 XH.length Qy).ownBlock=(.slice wI iF.length uT:Value).ownBlock):=⟨by rw[a9l];split<;>(cases(wI:Option Addr)<;>rfl)⟩;clear agl ad5 ad6 HO_4 a9l agk;have anA:=ah.mk a1l;clear a1l;replace q35:=eq_true q35))
                go_roundg k2
                case measure=>have:=jd.out;have:=MB.out;omega
                case rel=>exact⟨(XH),(oN++wF),zs,H',⟨by have:=jd.out;have:=MB.out;omega⟩,⟨by(with_reducible repeat(first|apply Kd.Q_alloc|apply Kd.Q_drewN|apply Kd.Q_drew));exact anA.out⟩,⟨zb HB⟩⟩
               ·rw[if_neg c32]at H
                exact absurd H (by simp)
              ·rw[if_neg N9]at H
               exact absurd H (by simp)
             ·rw[if_neg c28]at H
              exact absurd H (by simp)
           ·rw[if_neg c20]at H
            exact absurd H (by simp)
         ·rw[if_neg c16]at H
          have c16b0:=decide_eq_false c16
          clear c16
          by_cases XI:qa≥39
          ·rw[if_pos XI]at H
           have c36b0:=decide_eq_true XI
           clear XI
           have H':=ah.mk H
           clear H
           obtain⟨agm,a9m,aDu,_⟩:=Kd.Q_slice HO_4.out
           subst aDu
           have q38:(5:Int)≤((iF.length:Int):Int):=of_decide_eq_true za
           obtain⟨aRb,ad7,_,anB,_⟩:=info_parts info3
           have hroom38:iF.length≤a9m:=(Kd.Q_reads' HO_4.out).2.1
           have anC:Kd.C (Kd.int .i64) _ agm iF.length iF:=(Kd.Q_reads' HO_4.out).2.2
           have agp:=BA (P:=Tryz.prog) 91 3 .i64 Tryz.underlying91 ad7 agm iF.length a9m 5 (by omega) q38 hroom38
           have agq:=Kd.C_take (m:=5) anC (by omega)
           have hy38:wG.length=(5:Int).toNat:=(by rw[Dt.out,List.length_take];omega)
           rw[←Dt.out]at agq
           rw[←hy38]at agp
           have wH:=ah.mk agq
           have Gd:=ah.mk (show wG.length≤a9m from by omega)
           clear agq anC hroom38 ad7 anB
           have aRc:=ah.mk hy38
           clear hy38
           have aRd:=ah.mk (show 5≤iF.length from by omega)
           replace q38:=eq_true q38
           go_wp2_with (first|((with_reducible refine gq 115 rfl ?_);refine gl (some 30) Tryz.func115 #[.slice agm wG.length a9m] ?_;(with_reducible refine(bT.calls k2 _ _ wG qa _ ?aN ?aQ Yv.out).mono ?_);(case aN=>exact zc wH.out);(case aQ=>exact Gd.out);rintro e w' ⟨rfl,⟨nd,rfl⟩⟩;refine⟨_,rfl,?_⟩))
           go_meet
           case rel=>exact⟨_,(iF),(oN),zs,H',⟨by have:=jd.out;have:=MB.out;first|omega|exact Nat.le_refl _⟩,⟨by(with_reducible repeat(first|apply Kd.Q_alloc|apply Kd.Q_drewN|apply Kd.Q_drew));exact HO_4.out⟩,⟨zb HB⟩⟩
          ·rw[if_neg XI]at H
           have c36b0:=decide_eq_false XI
           clear XI
           by_cases KG:0≤qa
           ·rw[if_pos KG]at H
            have c39b0:=decide_eq_true KG
            clear KG
            by_cases c40:qa<39
            ·rw[if_pos c40]at H
             have c40b0:=decide_eq_true c40
             clear c40
             obtain⟨Gb,A42,H⟩:=ob H
             (try dsimp only at H)
             by_cases c43:oN.size+Gb.size≤9223372036854775807
             ·rw[if_pos c43]at H
              have c43b0:=eq_true c43
              have c43b1:=decide_eq_true c43
              try have c43b2:(9223372036854775807<oN.size+Gb.size)=False:=eq_false (Nat.not_lt.2 c43)
              have c44b0:=eq_true (of_decide_eq_true za:5≤(iF.length:Int))
              obtain⟨XJ,OB⟩:∃y_:List Int,y_=(iF.drop (5:Int).toNat):=⟨_,rfl⟩
              replace H:(av.l1 k2 XJ (oN++Gb))=some (r1,r2):=by first|(rw[OB];with_reducible exact H)|(have fH:=(Option.bind_some _ _).symm.trans H;rw[OB];with_reducible exact fH)|(have fH:=(Option.bind_some _ _).symm.trans H;with_reducible exact fH)|with_reducible exact H|(rw[OB];exact H)|exact H
              have ad8:=ah.mk OB
              clear OB
              have H':=ah.mk H
              clear H
              obtain⟨OC,OD,aDv,_⟩:=Kd.Q_slice HO_4.out
              subst aDv
              have QA:(5:Int)≤((iF.length:Int):Int):=of_decide_eq_true za
              obtain⟨aRf,ad9,_,anD,_⟩:=info_parts info3
              have hroom46:iF.length≤OD:=(Kd.Q_reads' HO_4.out).2.1
              have anE:Kd.C (Kd.int .i64) _ OC iF.length iF:=(Kd.Q_reads' HO_4.out).2.2
              have ags:=BA (P:=Tryz.prog) 91 3 .i64 Tryz.underlying91 ad9 OC iF.length OD 5 (by omega) QA hroom46
              have agt:=Kd.C_take (m:=5) anE (by omega)
              have agu:wG.length=(5:Int).toNat:=(by rw[Dt.out,List.length_take];omega)
              rw[←Dt.out]at agt
              rw[←agu]at ags
              have wH:=ah.mk agt
              have Gd:=ah.mk (show wG.length≤OD from by omega)
              clear agt anE hroom46 ad9 anD
              have aRg:=ah.mk agu
              clear agu
              have aRh:=ah.mk (show 5≤iF.length from by omega)
              replace QA:=eq_true QA
              go_wp2_with (first|((with_reducible refine gq 115 rfl ?_);refine gl (some 30) Tryz.func115 #[.slice OC wG.length OD] ?_;(with_reducible refine(bT.calls k2 _ _ wG qa _ ?aN ?aQ Yv.out).mono ?_);(case aN=>exact zc wH.out);(case aQ=>exact Gd.out);rintro e w' ⟨rfl,⟨nd,rfl⟩⟩;refine⟨_,rfl,?_⟩;have p41:0≤(qa:Int):=of_decide_eq_true za;have q41:qa<(39:Int):=of_decide_eq_true za;have anF:=fF (⟨#[101,116,97,111,105,110,115,114,104,108,48,49,50,51,52,53,54,55,56,57,100,99,117,109,102,112,103,119,121,98,118,107,120,106,113,122,58,47,45]⟩:ByteArray) qa;replace p41:=eq_true p41;replace q41:=eq_true q41)|((with_reducible refine gq 59 rfl ?_);refine gl (some 47) Tryz.func59 #[.int .i64 (wrap64 (bt (⟨#[101,116,97,111,105,110,115,114,104,108,48,49,50,51,52,53,54,55,56,57,100,99,117,109,102,112,103,119,121,98,118,107,120,106,113,122,58,47,45]⟩:ByteArray) qa))] ?_;(with_reducible refine(bR.calls (wrap64 (bt (⟨#[101,116,97,111,105,110,115,114,104,108,48,49,50,51,52,53,54,55,56,57,100,99,117,109,102,112,103,119,121,98,118,107,120,106,113,122,58,47,45]⟩:ByteArray) qa)) Gb _ A42.out).mono ?_);rintro e w47 ⟨rfl,hb⟩;refine⟨_,rfl,?_⟩;replace HO_4:=ah.mk (Kd.Q_below (by(with_reducible repeat(first|apply Kd.Q_alloc|apply Kd.Q_drewN|apply Kd.Q_drew));exact HO_4.out) hb);replace wH:=ah.mk (Kd.C_below (zc wH.out) hb);replace HB:=ah.mk (ai (zb HB) hb);(try clear hb);have q48:(5:Int)≤((iF.length:Int):Int):=of_decide_eq_true za;obtain⟨aRi,ada,_,adb,_⟩:=info_parts info3;have agw:=MH (P:=Tryz.prog) 91 3 .i64 Tryz.underlying91 ada 1 adb OC iF.length OD 5 (by omega) q48;have a1m:=Kd.Q_drop (k:=(5:Int).toNat) HO_4.out (by omega);obtain⟨A48,a9n⟩:∃A1,A1=(if OD=(5:Int).toNat then OC else(OC:Option Addr).map (·.add ((5:Int).toNat*1))):=⟨_,rfl⟩;obtain⟨c48,agx⟩:∃c1,c1=OD-(5:Int).toNat:=⟨_,rfl⟩;have agy:XJ.length=iF.length-(5:Int).toNat:=(by rw[ad8.out,List.length_drop]);rw[←ad8.out]at a1m;rw[←agy,←a9n,←agx]at agw;replace a1m:Kd.Q (Kd.int .i64) 3 w47 w.heap.size (fun _=>True) (.slice A48 XJ.length c48) XJ:=(by rw[a9n,agx,agy];exact a1m);have aRj:ah ((Value.slice A48 XJ.length c48).ownBlock=(.slice OC iF.length OD:Value).ownBlock):=⟨by rw[a9n];split<;>(cases(OC:Option Addr)<;>rfl)⟩;clear agy ada adb HO_4 a9n agx;have anG:=ah.mk a1m;clear a1m;replace q48:=eq_true q48))
              go_roundg k2
              case measure=>have:=jd.out;have:=MB.out;omega
              case rel=>exact⟨(XJ),(oN++Gb),zs,H',⟨by have:=jd.out;have:=MB.out;omega⟩,⟨by(with_reducible repeat(first|apply Kd.Q_alloc|apply Kd.Q_drewN|apply Kd.Q_drew));exact anG.out⟩,⟨zb HB⟩⟩
             ·rw[if_neg c43]at H
              exact absurd H (by simp)
            ·rw[if_neg c40]at H
             exact absurd H (by simp)
           ·rw[if_neg KG]at H
            exact absurd H (by simp)
        ·rw[if_neg c14]at H
         exact absurd H (by simp)
       ·skip
        have c13b0:=decide_eq_false c13
        have c13b1:=decide_eq_false (by omega)
        clear c13
        (first|rw[c13b0]|rw[c13b1]|rw[c13b2]|(simp only[gI,iB];rw[c13b0])|skip)
        have H':=ah.mk H
        clear H
        obtain⟨aRk,aRl,aDw,_⟩:=Kd.Q_slice HO_4.out
        subst aDw
        go_wp2
        go_meet
        case rel=>exact⟨_,(iF),(oN),zs,H',⟨by have:=jd.out;have:=MB.out;first|omega|exact Nat.le_refl _⟩,⟨by(with_reducible repeat(first|apply Kd.Q_alloc|apply Kd.Q_drewN|apply Kd.Q_drew));exact HO_4.out⟩,⟨zb HB⟩⟩
    case rest=>
     clear ag6
     try clear c1
     try clear q1
     try clear c2
     try clear p2
     try clear q2
     try clear c3
     try clear p3
     try clear q3
     try clear hx3
     try clear c4
     try clear c4b0
     try clear p4
     try clear q4
     try clear hx4
     try clear c5
     try clear c5b0
     try clear p6
     try clear q6
     try clear hx6
     try clear c8
     try clear c11
     try clear c12
     try clear c13
     try clear c13b0
     try clear c13b1
     try clear c13b2
     try clear c14
     try clear c14b0
     try clear c14b1
     try clear c16
     try clear c16b0
     try clear c17
     try clear c17b0
     try clear c17b1
     try clear q19
     try clear c20
     try clear c20b0
     try clear c20b1
     try clear q24
     try clear q25
     try clear KY
     try clear c26b0
     try clear c26b1
     try clear c26b2
     try clear c28
     try clear c28b0
     try clear N9
     try clear c29b0
     try clear p30
     try clear q30
     try clear anz
     try clear c32
     try clear c32b0
     try clear c32b1
     try clear c32b2
     try clear c33
     try clear c33b0
     try clear Qy
     try clear q35
     try clear XI
     try clear c36b0
     try clear q38
     try clear KG
     try clear c39b0
     try clear c40
     try clear c40b0
     try clear p41
     try clear q41
     try clear anF
     try clear c43
     try clear c43b0
     try clear c43b1
     try clear c43b2
     try clear c44
     try clear c44b0
     try clear QA
     try clear c48
     try clear q48
     try clear p2
     try clear p30
     try clear p41
     try clear p6
     try clear q19
     try clear q24
     try clear q25
     try clear q30
     try clear q35
     try clear q38
     try clear q41
     try clear QA
     try clear q48
     try clear q6
     obtain⟨kq,Gc,VB,rfl,HA,a9p,HO_4,HB⟩:=hcut
     cases kq with
     |zero=>exact absurd HA.out (by simp[av.j2])
     |succ anH=>
      have H:=HA.out
      clear HA
      simp only[av.j2]at H
      have H':=ah.mk H
      clear H
      go_wp2
      go_loopg [9,10] anH (fun kq v9 v10 w'=>∃(a1n:Bool)(yx:Int),v9= .bool a1n∧v10= .int .i64 yx∧ah (av.l2 kq Gc VB a1n yx=some (r1,r2))∧ah (kq≤anH)∧ah (Kd.Q (Kd.int .i64) 3 w' w.heap.size (fun _=>True) u4 Gc)∧ah (Below w.heap.size w w'))
      case atStart=>exact⟨(true),(0),zs,zs,H',⟨Nat.le_refl _⟩,⟨by(with_reducible repeat(first|apply Kd.Q_alloc|apply Kd.Q_drewN|apply Kd.Q_drew));exact HO_4.out⟩,⟨zb HB⟩⟩
      case round=>
       clear H'
       try clear c1
       try clear q1
       try clear c2
       try clear p2
       try clear q2
       try clear c3
       try clear p3
       try clear q3
       try clear hx3
       try clear c4
       try clear c4b0
       try clear p4
       try clear q4
       try clear hx4
       try clear c5
       try clear c5b0
       try clear p6
       try clear q6
       try clear hx6
       try clear c8
       try clear c11
       try clear c12
       try clear c13
       try clear c13b0
       try clear c13b1
       try clear c13b2
       try clear c14
       try clear c14b0
       try clear c14b1
       try clear c16
       try clear c16b0
       try clear c17
       try clear c17b0
       try clear c17b1
       try clear q19
       try clear c20
       try clear c20b0
       try clear c20b1
       try clear q24
       try clear q25
       try clear KY
       try clear c26b0
       try clear c26b1
       try clear c26b2
       try clear c28
       try clear c28b0
       try clear N9
       try clear c29b0
       try clear p30
       try clear q30
       try clear anz
       try clear c32
       try clear c32b0
       try clear c32b1
       try clear c32b2
       try clear c33
       try clear c33b0
       try clear Qy
       try clear q35
       try clear XI
       try clear c36b0
       try clear q38
       try clear KG
       try clear c39b0
       try clear c40
       try clear c40b0
       try clear p41
       try clear q41
       try clear anF
       try clear c43
       try clear c43b0
       try clear c43b1
       try clear c43b2
       try clear c44
       try clear c44b0
       try clear QA
       try clear c48
       try clear q48
       try clear p2
       try clear p3
       try clear p30
       try clear p4
       try clear p41
       try clear p6
       try clear q1
       try clear q19
       try clear q2
       try clear q24
       try clear q25
       try clear q3
       try clear q30
       try clear q35
       try clear q38
       try clear q4
       try clear q41
       try clear QA
       try clear q48
       try clear q6
       obtain⟨a1n,yx,rfl,rfl,HA,HK3,HO_4,HB⟩:=hrel
       cases gk with
       |zero=>exact absurd HA.out (by simp[av.l2])
       |succ k3=>
        have H:=HA.out
        clear HA
        simp only[av.l2]at H
        replace H:=sp H
        rcases H with⟨c50,H⟩|⟨c50,H⟩
        ·skip
         have c50b0:=decide_eq_true c50
         clear c50
         by_cases c51:a1n=true
         ·subst c51
          rw[if_pos rfl]at H
          by_cases c52:0≤yx
          ·rw[if_pos c52]at H
           have c52b0:=decide_eq_true c52
           clear c52
           have H':=ah.mk H
           clear H
           obtain⟨a1o,a1p,agA,_⟩:=Kd.Q_slice HO_4.out
           subst agA
           have agB:0≤(yx:Int):=of_decide_eq_true za
           have agC:yx<(Gc.length:Int):=of_decide_eq_true za
           obtain⟨aMz,aDx,avo⟩:=Kd.at_int (Kd.Q_reads' HO_4.out).2.2 yx agB agC
           cases aDx
           replace agB:=eq_true agB
           replace agC:=eq_true agC
           go_wp2
           go_roundg k3
           case measure=>have:=jd.out;have:=a9p.out;have:=HK3.out;omega
           case rel=>exact⟨(((rd Gc yx)==1)),(wrap64 (yx+1)),zs,zs,H',⟨by have:=jd.out;have:=a9p.out;have:=HK3.out;omega⟩,⟨by(with_reducible repeat(first|apply Kd.Q_alloc|apply Kd.Q_drewN|apply Kd.Q_drew));exact HO_4.out⟩,⟨zb HB⟩⟩
          ·rw[if_neg c52]at H
           exact absurd H (by simp)
         ·replace c51:=Bool.eq_false_iff.mpr c51
          subst c51
          rw[if_neg (show ¬(false=true) by decide)]at H
          have H':=ah.mk H
          clear H
          obtain⟨aRm,aRn,aDy,_⟩:=Kd.Q_slice HO_4.out
          subst aDy
          go_wp2
          go_roundg k3
          case measure=>have:=jd.out;have:=a9p.out;have:=HK3.out;omega
          case rel=>exact⟨(false),(wrap64 (yx+1)),zs,zs,H',⟨by have:=jd.out;have:=a9p.out;have:=HK3.out;omega⟩,⟨by(with_reducible repeat(first|apply Kd.Q_alloc|apply Kd.Q_drewN|apply Kd.Q_drew));exact HO_4.out⟩,⟨zb HB⟩⟩
        ·skip
         have c50b0:=decide_eq_false c50
         clear c50
         by_cases c55:a1n=true
         ·subst c55
          rw[if_pos rfl]at H
          replace H:=sp H
          rcases H with⟨c56,H⟩|⟨c56,H⟩
          ·skip
           have c56b0:=decide_eq_true c56
           have c56b1:=decide_eq_true (by omega)
           clear c56
           simp only[Option.some.injEq,Prod.mk.injEq]at H
           obtain⟨rfl,rfl⟩:=H
           obtain⟨anK,anL,agD,_⟩:=Kd.Q_slice HO_4.out
           subst agD
           go_wp2
           go_ret2
           exact⟨ze,zb HB⟩
          ·skip
           have c56b0:=decide_eq_false c56
           have c56b1:=decide_eq_false (by omega)
           clear c56
           simp only[Option.some.injEq,Prod.mk.injEq]at H
           obtain⟨rfl,rfl⟩:=H
           obtain⟨aRo,aRp,aDz,_⟩:=Kd.Q_slice HO_4.out
           subst aDz
           go_wp2
           go_ret2
           exact⟨ze,zb HB⟩
         ·replace c55:=Bool.eq_false_iff.mpr c55
          subst c55
          rw[if_neg (show ¬(false=true) by decide)]at H
          simp only[Option.some.injEq,Prod.mk.injEq]at H
          obtain⟨rfl,rfl⟩:=H
          obtain⟨aRq,aRr,aDA,_⟩:=Kd.Q_slice HO_4.out
          subst aDA
          go_wp2
          go_ret2
          exact⟨ze,zb HB⟩
def fI.f(k:Nat)(a0:ByteArray):Option (ByteArray×Bool):=if(a0.size:Int)>16 then(some ((⟨#[]⟩:ByteArray),false))else((av.f k a0).bind fun OE=>(if OE.2=true then(some (OE.1,true))else(some ((⟨#[]⟩:ByteArray),false))))
theorem fI.mono:∀a0 k,gM (fI.f k a0) (fI.f (k+1) a0):=by
 intro a0 k
 unfold fI.f
 have m0:=@av.mono
 exact zm
theorem fI.calls(k:Nat)(a0:ByteArray)(r1:ByteArray)(r2:Bool)(w:World)(h:fI.f k a0=some (r1,r2)):
 Calls Tryz.prog 123 #[.string a0] w fun e w'=>e= .returned (.tuple #[.string r1,.bool r2])∧Below w.heap.size w w':=by
 have HB:=ah.mk (Below.refl w.heap.size w)
 have H:(if(a0.size:Int)>16 then(some ((⟨#[]⟩:ByteArray),false))else((av.f k a0).bind fun OE=>(if OE.2=true then(some (OE.1,true))else(some ((⟨#[]⟩:ByteArray),false)))))=some (r1,r2):=h
 clear h
 replace H:=sp H
 rcases H with⟨c2,H⟩|⟨c2,H⟩
 ·skip
  have c2b0:=decide_eq_true c2
  have c2b1:=decide_eq_true (by omega)
  clear c2
  simp only[Option.some.injEq,Prod.mk.injEq]at H
  obtain⟨rfl,rfl⟩:=H
  go_enter Tryz.func123,Tryz.ntmps123
  go_wp2
  go_ret2
  exact⟨ze,zb HB⟩
 ·skip
  have c2b0:=decide_eq_false c2
  have c2b1:=decide_eq_false (by omega)
  clear c2
  obtain⟨⟨anM,aDB⟩,A3,H⟩:=ob H
  (try dsimp only at H)
  by_cases c4:aDB=true
  ·subst c4
   rw[if_pos rfl]at H
   simp only[Option.some.injEq,Prod.mk.injEq]at H
   obtain⟨rfl,rfl⟩:=H
   go_enter Tryz.func123,Tryz.ntmps123
   go_wp2_with (first|((with_reducible refine gq 124 rfl ?_);refine gl (some 11) Tryz.func124 #[.string a0] ?_;(with_reducible refine(av.calls k a0 anM true _ A3.out).mono ?_);rintro e w5 ⟨rfl,hb⟩;refine⟨_,rfl,?_⟩;replace HB:=ah.mk (ai (zb HB) hb);(try clear hb)))
   go_ret2
   exact⟨ze,zb HB⟩
  ·replace c4:=Bool.eq_false_iff.mpr c4
   subst c4
   rw[if_neg (show ¬(false=true) by decide)]at H
   simp only[Option.some.injEq,Prod.mk.injEq]at H
   obtain⟨rfl,rfl⟩:=H
   go_enter Tryz.func123,Tryz.ntmps123
   go_wp2_with (first|((with_reducible refine gq 124 rfl ?_);refine gl (some 11) Tryz.func124 #[.string a0] ?_;(with_reducible refine(av.calls k a0 anM false _ A3.out).mono ?_);rintro e w6 ⟨rfl,hb⟩;refine⟨_,rfl,?_⟩;replace HB:=ah.mk (ai (zb HB) hb);(try clear hb)))
   go_ret2
   exact⟨ze,zb HB⟩
def bM.j0:Nat→ByteArray→Int→Int→Bool→Option (ByteArray×Int×Bool)
 |0,_,_,_,_=>none
 |k+1,x0,x5,x6,x30=>if x30=true then(some ((⟨#[]⟩:ByteArray),0,false))else(if 0≤x6 then(if x6≤(wrap64 (x6+x5))then(if(wrap64 (x6+x5))≤(x0.size:Int)then(if 0<(x0.size:Int)then(if(bt x0 0)≥128 then((fI.f k (x0.extract (x6:Int).toNat ((wrap64 (x6+x5)):Int).toNat)).bind fun ade=>(if ade.2=true then(some (ade.1,wrap64 (x6+x5),true))else(some ((⟨#[]⟩:ByteArray),0,false))))else((aZ.f k (x0.extract (x6:Int).toNat ((wrap64 (x6+x5)):Int).toNat)).bind fun agE=>(if agE=true then(some (x0.extract (x6:Int).toNat ((wrap64 (x6+x5)):Int).toNat,wrap64 (x6+x5),true))else(some ((⟨#[]⟩:ByteArray),0,false)))))else(none))else(none))else(none))else(none))
def bM.f(k:Nat)(a0:ByteArray):Option (ByteArray×Int×Bool):=(aI.f k a0 7).bind fun nk=>(if nk.2.2=true then(if nk.1>16 then(bM.j0 k a0 nk.1 nk.2.1 true)else(bM.j0 k a0 nk.1 nk.2.1 (decide ((wrap64 (nk.2.1+nk.1))>(a0.size:Int)))))else(bM.j0 k a0 nk.1 nk.2.1 true))
theorem bM.mono_l:∀k,(∀y0 y1 y2 y3,gM (bM.j0 k y0 y1 y2 y3) (bM.j0 (k+1) y0 y1 y2 y3))
 |0=>fun _ _ _ _ r h=>by simp[bM.j0]at h
 |k+1=>by
  have mW:=bM.mono_l k
  ·intro y0 y1 y2 y3
   unfold bM.j0
   have m0:=@aZ.mono
   have m1:=@fI.mono
   have m2:=@aI.mono
   exact zm
theorem bM.mono:∀a0 k,gM (bM.f k a0) (bM.f (k+1) a0):=by
 intro a0 k
 have mW:=bM.mono_l k
 unfold bM.f
 have m0:=@aZ.mono
 have m1:=@fI.mono
 have m2:=@aI.mono
 exact zm
theorem bM.calls(k:Nat)(a0:ByteArray)(r1:ByteArray)(r2:Int)(r3:Bool)(w:World)(h:bM.f k a0=some (r1,r2,r3)):
 Calls Tryz.prog 121 #[.string a0] w fun e w'=>e= .returned (.tuple #[.string r1,.int .i64 r2,.bool r3])∧Below w.heap.size w w':=by
 have HB:=ah.mk (Below.refl w.heap.size w)
 have H:((aI.f k a0 7).bind fun nk=>(if nk.2.2=true then(if nk.1>16 then(bM.j0 k a0 nk.1 nk.2.1 true)else(bM.j0 k a0 nk.1 nk.2.1 (decide ((wrap64 (nk.2.1+nk.1))>(a0.size:Int)))))else(bM.j0 k a0 nk.1 nk.2.1 true)))=some (r1,r2,r3):=h
 clear h
 obtain⟨⟨Ca,rF,anN⟩,A2,H⟩:=ob H
 (try dsimp only at H)
 have HC3:=ah.mk H
 clear H
 go_enter Tryz.func121,Tryz.ntmps121
 go_upto_region 2 with(first|((with_reducible refine gq 116 rfl ?_);refine gl (some 13) Tryz.func116 #[.string a0,.int .i64 7] ?_;(with_reducible refine(aI.calls k a0 7 Ca rF anN _ A2.out).mono ?_);rintro e w' ⟨rfl,⟨nd,rfl⟩⟩;refine⟨_,rfl,?_⟩))
 (try simp only[Act.put,s1,s2,s3])
 go_cut [30] (fun v30 wc=>∃(kq:Nat)(VD:Bool),v30= .bool VD∧ah (bM.j0 kq a0 Ca rF VD=some (r1,r2,r3))∧ah (kq≤k)∧ah (Below w.heap.size w wc))
 case first=>
  have H:=HC3.out
  clear HC3
  by_cases c4:anN=true
  ·subst c4
   rw[if_pos rfl]at H
   replace H:=sp H
   rcases H with⟨c5,H⟩|⟨c5,H⟩
   ·skip
    have c5b0:=decide_eq_true c5
    clear c5
    (first|rw[c5b0]|rw[c5b1]|rw[c5b2]|(simp only[gI,iB];rw[c5b0])|skip)
    have H':=ah.mk H
    clear H
    go_wp2
    go_meet
    case rel=>exact⟨_,(true),zs,H',⟨by first|omega|exact Nat.le_refl _⟩,⟨zb HB⟩⟩
   ·skip
    have c5b0:=decide_eq_false c5
    clear c5
    (first|rw[c5b0]|rw[c5b1]|rw[c5b2]|(simp only[gI,iB];rw[c5b0])|skip)
    have H':=ah.mk H
    clear H
    go_wp2
    go_meet
    case rel=>exact⟨_,(decide ((wrap64 (rF+Ca))>(a0.size:Int))),zs,H',⟨by first|omega|exact Nat.le_refl _⟩,⟨zb HB⟩⟩
  ·replace c4:=Bool.eq_false_iff.mpr c4
   subst c4
   rw[if_neg (show ¬(false=true) by decide)]at H
   have H':=ah.mk H
   clear H
   go_wp2
   go_meet
   case rel=>exact⟨_,(true),zs,H',⟨by first|omega|exact Nat.le_refl _⟩,⟨zb HB⟩⟩
 case rest=>
  clear HC3
  try clear c1
  try clear p2
  try clear c4
  try clear c5
  try clear c5b0
  try clear c5b1
  try clear c5b2
  obtain⟨kq,VD,rfl,HA,HJ2,HB⟩:=hcut
  cases kq with
  |zero=>exact absurd HA.out (by simp[bM.j0])
  |succ kj2=>
   have H:=HA.out
   clear HA
   simp only[bM.j0]at H
   by_cases c6:VD=true
   ·subst c6
    rw[if_pos rfl]at H
    simp only[Option.some.injEq,Prod.mk.injEq]at H
    obtain⟨rfl,rfl,rfl⟩:=H
    go_wp2
    go_ret3
    exact⟨ze,zb HB⟩
   ·replace c6:=Bool.eq_false_iff.mpr c6
    subst c6
    rw[if_neg (show ¬(false=true) by decide)]at H
    replace H:=sp H
    rcases H with⟨c7,H⟩|⟨c7,H⟩
    ·skip
     have c7b0:=eq_true c7
     have c7b1:=decide_eq_true c7
     clear c7
     by_cases c8:rF≤(wrap64 (rF+Ca))
     ·rw[if_pos c8]at H
      have c8b0:=eq_true c8
      have c8b1:=decide_eq_true c8
      by_cases c9:(wrap64 (rF+Ca))≤(a0.size:Int)
      ·rw[if_pos c9]at H
       have c9b0:=eq_true c9
       have c9b1:=decide_eq_true c9
       by_cases c10:0<(a0.size:Int)
       ·rw[if_pos c10]at H
        have c10b0:=decide_eq_true c10
        have c10b1:=decide_eq_true (by omega)
        clear c10
        by_cases c12:(bt a0 0)≥128
        ·rw[if_pos c12]at H
         have c12b0:=decide_eq_true c12
         clear c12
         obtain⟨⟨anO,aDC⟩,A13,H⟩:=ob H
         (try dsimp only at H)
         by_cases c14:aDC=true
         ·subst c14
          rw[if_pos rfl]at H
          simp only[Option.some.injEq,Prod.mk.injEq]at H
          obtain⟨rfl,rfl,rfl⟩:=H
          have p11:0≤(0:Int):=(by omega)
          have QB:0<a0.size:=(by have:(0:Int)<(a0.size:Int):=of_decide_eq_true za;omega)
          have a1r:∀h:0<a0.size,((a0[0]'h).toNat:Int)=bt a0 0:=fF a0 0
          clear p11
          have a1s:(0<(a0.size:Int))=True:=eq_true (of_decide_eq_true za)
          replace QB:=eq_true QB
          go_wp2_with (first|((with_reducible refine gq 123 rfl ?_);refine gl (some 42) Tryz.func123 #[.string (a0.extract (rF:Int).toNat ((wrap64 (rF+Ca)):Int).toNat)] ?_;(with_reducible refine(fI.calls kj2 (a0.extract (rF:Int).toNat ((wrap64 (rF+Ca)):Int).toNat) anO true _ A13.out).mono ?_);rintro e w15 ⟨rfl,hb⟩;refine⟨_,rfl,?_⟩;replace HB:=ah.mk (ai (zb HB) hb);(try clear hb)))
          go_ret3
          exact⟨ze,zb HB⟩
         ·replace c14:=Bool.eq_false_iff.mpr c14
          subst c14
          rw[if_neg (show ¬(false=true) by decide)]at H
          simp only[Option.some.injEq,Prod.mk.injEq]at H
          obtain⟨rfl,rfl,rfl⟩:=H
          have p11:0≤(0:Int):=(by omega)
          have QB:0<a0.size:=(by have:(0:Int)<(a0.size:Int):=of_decide_eq_true za;omega)
          have a1r:∀h:0<a0.size,((a0[0]'h).toNat:Int)=bt a0 0:=fF a0 0
          clear p11
          have a1s:(0<(a0.size:Int))=True:=eq_true (of_decide_eq_true za)
          replace QB:=eq_true QB
          go_wp2_with (first|((with_reducible refine gq 123 rfl ?_);refine gl (some 42) Tryz.func123 #[.string (a0.extract (rF:Int).toNat ((wrap64 (rF+Ca)):Int).toNat)] ?_;(with_reducible refine(fI.calls kj2 (a0.extract (rF:Int).toNat ((wrap64 (rF+Ca)):Int).toNat) anO false _ A13.out).mono ?_);rintro e w16 ⟨rfl,hb⟩;refine⟨_,rfl,?_⟩;replace HB:=ah.mk (ai (zb HB) hb);(try clear hb)))
          go_ret3
          exact⟨ze,zb HB⟩
        ·rw[if_neg c12]at H
         have c12b0:=decide_eq_false c12
         clear c12
         obtain⟨agE,Xw,H⟩:=ob H
         (try dsimp only at H)
         by_cases c18:agE=true
         ·subst c18
          rw[if_pos rfl]at H
          simp only[Option.some.injEq,Prod.mk.injEq]at H
          obtain⟨rfl,rfl,rfl⟩:=H
          have p11:0≤(0:Int):=(by omega)
          have QB:0<a0.size:=(by have:(0:Int)<(a0.size:Int):=of_decide_eq_true za;omega)
          have a1r:∀h:0<a0.size,((a0[0]'h).toNat:Int)=bt a0 0:=fF a0 0
          clear p11
          have a1s:(0<(a0.size:Int))=True:=eq_true (of_decide_eq_true za)
          replace QB:=eq_true QB
          go_wp2_with (first|((with_reducible refine gq 55 rfl ?_);refine gl (some 52) Tryz.func55 #[.string (a0.extract (rF:Int).toNat ((wrap64 (rF+Ca)):Int).toNat)] ?_;(with_reducible refine(aZ.calls kj2 (a0.extract (rF:Int).toNat ((wrap64 (rF+Ca)):Int).toNat) true _ Xw.out).mono ?_);rintro e w' ⟨rfl,⟨nd,rfl⟩⟩;refine⟨_,rfl,?_⟩))
          go_ret3
          exact⟨ze,zb HB⟩
         ·replace c18:=Bool.eq_false_iff.mpr c18
          subst c18
          rw[if_neg (show ¬(false=true) by decide)]at H
          simp only[Option.some.injEq,Prod.mk.injEq]at H
          obtain⟨rfl,rfl,rfl⟩:=H
          have p11:0≤(0:Int):=(by omega)
          have QB:0<a0.size:=(by have:(0:Int)<(a0.size:Int):=of_decide_eq_true za;omega)
          have a1r:∀h:0<a0.size,((a0[0]'h).toNat:Int)=bt a0 0:=fF a0 0
          clear p11
          have a1s:(0<(a0.size:Int))=True:=eq_true (of_decide_eq_true za)
          replace QB:=eq_true QB
          go_wp2_with (first|((with_reducible refine gq 55 rfl ?_);refine gl (some 52) Tryz.func55 #[.string (a0.extract (rF:Int).toNat ((wrap64 (rF+Ca)):Int).toNat)] ?_;(with_reducible refine(aZ.calls kj2 (a0.extract (rF:Int).toNat ((wrap64 (rF+Ca)):Int).toNat) false _ Xw.out).mono ?_);rintro e w' ⟨rfl,⟨nd,rfl⟩⟩;refine⟨_,rfl,?_⟩))
          go_ret3
          exact⟨ze,zb HB⟩
       ·rw[if_neg c10]at H
        exact absurd H (by simp)
      ·rw[if_neg c9]at H
       exact absurd H (by simp)
     ·rw[if_neg c8]at H
      exact absurd H (by simp)
    ·skip
     exact absurd H (by simp)
def gV.f(k:Nat)(aH:List (bf))(aA:Int)(a1:ByteArray)(a2:Int):Option (ByteArray×ByteArray×Bool×Int×Bool):=(aI.f k a1 a2).bind fun jV=>(if jV.2.2=true then(if jV.1=0 then(if 0≤jV.2.1 then(if jV.2.1≤(a1.size:Int)then((bM.f k (a1.extract (jV.2.1:Int).toNat a1.size)).bind fun qR=>(if qR.2.2=true then(if qR.1.toList=([]:List UInt8)then(some ((⟨#[]⟩:ByteArray),(⟨#[]⟩:ByteArray),false,0,false))else(if 0≤(wrap64 (jV.2.1+qR.2.1))then(if(wrap64 (jV.2.1+qR.2.1))≤(a1.size:Int)then((bM.f k (a1.extract ((wrap64 (jV.2.1+qR.2.1)):Int).toNat a1.size)).bind fun wJ=>(some (qR.1,wJ.1,false,wrap64 ((wrap64 (jV.2.1+qR.2.1))+wJ.2.1),wJ.2.2)))else(none))else(none)))else(some ((⟨#[]⟩:ByteArray),(⟨#[]⟩:ByteArray),false,0,false))))else(none))else(none))else((kK.f aH aA jV.1).bind fun OG=>(if OG.2.2.2=true then(if 0≤jV.2.1 then(if jV.2.1≤(a1.size:Int)then((bM.f k (a1.extract (jV.2.1:Int).toNat a1.size)).bind fun Gg=>(some (OG.1,Gg.1,false,wrap64 (jV.2.1+Gg.2.1),Gg.2.2)))else(none))else(none))else(some ((⟨#[]⟩:ByteArray),(⟨#[]⟩:ByteArray),false,0,false)))))else(some ((⟨#[]⟩:ByteArray),(⟨#[]⟩:ByteArray),false,0,false)))
theorem gV.mono:∀a0 a1 a2 a3 k,gM (gV.f k a0 a1 a2 a3) (gV.f (k+1) a0 a1 a2 a3):=by
 intro a0 a1 a2 a3 k
 unfold gV.f
 have m0:=@aI.mono
 have m1:=@bM.mono
 exact zm
theorem gV.calls(k:Nat)(j4:Option Addr)(j5:Nat)(aH:List (bf))(aA:Int)(a1:ByteArray)(a2:Int)(r1:ByteArray)(r2:ByteArray)(r3:Bool)(r4:Int)(r5:Bool)(w:World)(kT:Kd.C iH w j4 aH.length aH)(kU:aH.length≤j5)(h:gV.f k aH aA a1 a2=some (r1,r2,r3,r4,r5)):
 Calls Tryz.prog 118 #[.agg #[.slice j4 aH.length j5,.int .i64 aA],.string a1,.int .i64 a2] w fun e w'=>e= .returned (.tuple #[.agg #[.string r1,.string r2,.bool r3],.int .i64 r4,.bool r5])∧Below w.heap.size w w':=by
 have Ab:=Tryz.underlying25
 have sN:=Tryz.underlying89
 have lM:=ah.mk kT
 have pO:=ah.mk kU
 clear kT kU
 have HB:=ah.mk (Below.refl w.heap.size w)
 have H:((aI.f k a1 a2).bind fun jV=>(if jV.2.2=true then(if jV.1=0 then(if 0≤jV.2.1 then(if jV.2.1≤(a1.size:Int)then((bM.f k (a1.extract (jV.2.1:Int).toNat a1.size)).bind fun qR=>(if qR.2.2=true then(if qR.1.toList=([]:List UInt8)then(some ((⟨#[]⟩:ByteArray),(⟨#[]⟩:ByteArray),false,0,false))else(if 0≤(wrap64 (jV.2.1+qR.2.1))then(if(wrap64 (jV.2.1+qR.2.1))≤(a1.size:Int)then((bM.f k (a1.extract ((wrap64 (jV.2.1+qR.2.1)):Int).toNat a1.size)).bind fun wJ=>(some (qR.1,wJ.1,false,wrap64 ((wrap64 (jV.2.1+qR.2.1))+wJ.2.1),wJ.2.2)))else(none))else(none)))else(some ((⟨#[]⟩:ByteArray),(⟨#[]⟩:ByteArray),false,0,false))))else(none))else(none))else((kK.f aH aA jV.1).bind fun OG=>(if OG.2.2.2=true then(if 0≤jV.2.1 then(if jV.2.1≤(a1.size:Int)then((bM.f k (a1.extract (jV.2.1:Int).toNat a1.size)).bind fun Gg=>(some (OG.1,Gg.1,false,wrap64 (jV.2.1+Gg.2.1),Gg.2.2)))else(none))else(none))else(some ((⟨#[]⟩:ByteArray),(⟨#[]⟩:ByteArray),false,0,false)))))else(some ((⟨#[]⟩:ByteArray),(⟨#[]⟩:ByteArray),false,0,false))))=some (r1,r2,r3,r4,r5):=h
 clear h
 obtain⟨⟨Rp,AV,anP⟩,A4,H⟩:=ob H
 (try dsimp only at H)
 have Z8:=ah.mk H
 clear H
 go_enter Tryz.func118,Tryz.ntmps118
 go_upto_if 29 with(first|((with_reducible refine gd 3 rfl ?_);refine bx (N:=3) (cs:=#[.slice j4 aH.length j5,.int .i64 aA]) (t:=25) ?_;intro IE hg w6 hbox hb;have mX:=ah.mk (hbox);have anQ:=gw HB hg;have aMA:=anQ;replace HB:=ah.mk (ai (zb HB) hb);clear hb hbox hg)|((with_reducible refine gd 6 rfl ?_);refine bx (N:=6) (cs:=#[.string (⟨#[]⟩:ByteArray),.string (⟨#[]⟩:ByteArray),.bool false]) (t:=89) ?_;intro vD hg w7 hbox hb;have jO:=ah.mk (hbox);have anR:=gw HB hg;have aMB:=anR;replace HB:=ah.mk (ai (zb HB) hb);obtain⟨oO,oP⟩:=nb mX hg;replace mX:=kb mX hb;clear hb hbox hg)|((with_reducible refine gq 116 rfl ?_);refine gl (some 24) Tryz.func116 #[.string a1,.int .i64 a2] ?_;(with_reducible refine(aI.calls k a1 a2 Rp AV anP _ A4.out).mono ?_);rintro e w' ⟨rfl,⟨nd,rfl⟩⟩;refine⟨_,rfl,?_⟩))
 (try simp only[Act.put,s1,s2,s3])
 have H:=Z8.out
 clear Z8
 by_cases c8:anP=true
 ·subst c8
  rw[if_pos rfl]at H
  have HC9:=ah.mk H
  clear H
  go_upto_if 33 with(first|((with_reducible refine gd 12 rfl ?_);refine bx (N:=12) (cs:=#[.string (⟨#[]⟩:ByteArray),.string (⟨#[]⟩:ByteArray),.bool false]) (t:=89) ?_;intro IG hg w10 hbox hb;have nN:=ah.mk (hbox);have anS:=gw HB hg;have aMC:=anS;replace HB:=ah.mk (ai (zb HB) hb);obtain⟨xI,xJ⟩:=nb mX hg;replace mX:=kb mX hb;obtain⟨qA,qB⟩:=nb jO hg;replace jO:=kb jO hb;clear hb hbox hg;have aMD:=xJ.out;have aME:=xI.out;have anT:=qB.out;have anU:=qA.out;obtain⟨KI,KJ,VE,KL,KM,VF⟩:=c3 nN))
  (try simp only[Act.put,s1,s2,s3])
  have H:=HC9.out
  clear HC9
  replace H:=sp H
  rcases H with⟨c14,H⟩|⟨c14,H⟩
  ·skip
   have c14b0:(Rp==0)=true:=beq_iff_eq.mpr c14
   have c14b1:(Rp != 0)=false:=bne_eq_false_iff_eq.mpr c14
   clear c14
   (first|rw[c14b0]|rw[c14b1]|rw[c14b2]|(simp only[gI,iB];rw[c14b0])|skip)
   by_cases c15:0≤AV
   ·rw[if_pos c15]at H
    have c15b0:=eq_true c15
    have c15b1:=decide_eq_true c15
    clear c15
    by_cases c16:AV≤(a1.size:Int)
    ·rw[if_pos c16]at H
     have c16b0:=eq_true c16
     have c16b1:=decide_eq_true c16
     clear c16
     obtain⟨⟨Gh,a1t,aDD⟩,Xw,H⟩:=ob H
     (try dsimp only at H)
     by_cases c18:aDD=true
     ·subst c18
      rw[if_pos rfl]at H
      by_cases c19:Gh.toList=([]:List UInt8)
      ·rw[if_pos c19]at H
       have c19b0:(Gh.toList==([]:List UInt8))=true:=beq_iff_eq.mpr c19
       have c19b1:(Gh.toList != ([]:List UInt8))=false:=bne_eq_false_iff_eq.mpr c19
       clear c19
       simp only[Option.some.injEq,Prod.mk.injEq]at H
       obtain⟨rfl,rfl,rfl,rfl,rfl⟩:=H
       go_wp2_with (first|((with_reducible refine gq 121 rfl ?_);refine gl (some 38) Tryz.func121 #[.string (a1.extract (AV:Int).toNat a1.size)] ?_;(with_reducible refine(bM.calls k (a1.extract (AV:Int).toNat a1.size) Gh a1t true _ Xw.out).mono ?_);rintro e w20 ⟨rfl,hb⟩;refine⟨_,rfl,?_⟩;replace mX:=ah.mk (dR (g:=IE) (o:=.cells #[.slice j4 aH.length j5,.int .i64 aA] 25 (0,0)) (zp mX) hb);replace jO:=ah.mk (dR (g:=vD) (o:=.cells #[.string (⟨#[]⟩:ByteArray),.string (⟨#[]⟩:ByteArray),.bool false] 89 (0,0)) (zp jO) hb);replace nN:=ah.mk (dR (g:=IG) (o:=.cells #[.string (⟨#[]⟩:ByteArray),.string (⟨#[]⟩:ByteArray),.bool false] 89 (0,0)) (zp nN) hb);replace HB:=ah.mk (ai (zb HB) hb);(try clear hb);have adf:=oP.out;have adg:=oO.out;have ack:=qA.out;have acn:=qB.out;obtain⟨KC,KD,UH,KE,KF,UI⟩:=c3 jO))
       refine bodyPost_ret (fA rfl _ _ vD 89 #[.string (⟨#[]⟩:ByteArray),.string (⟨#[]⟩:ByteArray),.bool false] (0,0) _ rfl (zp jO) Tryz.underlying89 rfl (by kernel_rfl)) rfl ?_
       exact⟨ze,zb HB⟩
      ·rw[if_neg c19]at H
       have c19b0:(Gh.toList==([]:List UInt8))=false:=beq_eq_false_iff_ne.mpr c19
       have c19b1:(Gh.toList != ([]:List UInt8))=true:=bne_iff_ne.mpr c19
       obtain⟨KZ,II⟩:∃j_:Int,(wrap64 (AV+a1t))=j_:=⟨_,rfl⟩
       replace H:(if 0≤(KZ)then(if(KZ)≤(a1.size:Int)then((bM.f k (a1.extract ((KZ):Int).toNat a1.size)).bind fun wJ=>(some (Gh,wJ.1,false,wrap64 ((KZ)+wJ.2.1),wJ.2.2)))else(none))else(none))=some (r1,r2,r3,r4,r5):=by first|(rw[II]at H;exact H)|(simp only[II]at H ⊢;exact H)
       (try rw[II]at Xw)
       have hji24w:(IntKind.i64.wrap (AV+a1t))=KZ:=(gI _).trans II
       by_cases Hl:0≤(KZ)
       ·rw[if_pos Hl]at H
        have c25b0:=eq_true Hl
        have c25b1:=decide_eq_true Hl
        clear Hl
        by_cases KY:(KZ)≤(a1.size:Int)
        ·rw[if_pos KY]at H
         have c26b0:=eq_true KY
         have c26b1:=decide_eq_true KY
         clear KY
         obtain⟨⟨anV,aDE,aDF⟩,A27,H⟩:=ob H
         (try dsimp only at H)
         simp only[Option.some.injEq,Prod.mk.injEq]at H
         obtain⟨rfl,rfl,rfl,rfl,rfl⟩:=H
         go_wp2_with (first|((with_reducible refine gq 121 rfl ?_);refine gl (some 38) Tryz.func121 #[.string (a1.extract (AV:Int).toNat a1.size)] ?_;(with_reducible refine(bM.calls k (a1.extract (AV:Int).toNat a1.size) Gh a1t true _ Xw.out).mono ?_);rintro e Yu ⟨rfl,hb⟩;refine⟨_,rfl,?_⟩;replace mX:=ah.mk (dR (g:=IE) (o:=.cells #[.slice j4 aH.length j5,.int .i64 aA] 25 (0,0)) (zp mX) hb);replace jO:=ah.mk (dR (g:=vD) (o:=.cells #[.string (⟨#[]⟩:ByteArray),.string (⟨#[]⟩:ByteArray),.bool false] 89 (0,0)) (zp jO) hb);replace nN:=ah.mk (dR (g:=IG) (o:=.cells #[.string (⟨#[]⟩:ByteArray),.string (⟨#[]⟩:ByteArray),.bool false] 89 (0,0)) (zp nN) hb);replace HB:=ah.mk (ai (zb HB) hb);(try clear hb);have amJ:=xJ.out;have amK:=xI.out;have acE:=qB.out;have acF:=qA.out;obtain⟨Eo,Ep,Er,Es,Et,Eu⟩:=c3 nN)|((with_reducible refine gq 121 rfl ?_);refine QE (some 70) rfl rfl Tryz.func121 (by kernel_rfl) rfl #[.string (a1.extract ((KZ):Int).toNat a1.size)] rfl (by(try simp only[List.map_toArray,List.map_cons,List.map_nil]);first|done|(simp only[II];rfl)|rfl|(simp only[List.length_drop,List.length_take];rfl)) ?_;(with_reducible refine(bM.calls k (a1.extract ((KZ):Int).toNat a1.size) anV aDE aDF _ A27.out).mono ?_);rintro e w32 ⟨rfl,hb⟩;refine⟨_,rfl,?_⟩;replace mX:=ah.mk (dR (g:=IE) (o:=.cells #[.slice j4 aH.length j5,.int .i64 aA] 25 (0,0)) (zp mX) hb);replace jO:=ah.mk (dR (g:=vD) (o:=.cells #[.string (⟨#[]⟩:ByteArray),.string (⟨#[]⟩:ByteArray),.bool false] 89 (0,0)) (zp jO) hb);replace nN:=ah.mk (dR (g:=IG) (o:=.cells #[.string Gh,.string (⟨#[]⟩:ByteArray),.bool false] 89 (0,0)) (zp nN) hb);replace HB:=ah.mk (ai (zb HB) hb);(try clear hb);obtain⟨zG,zH,zI,zJ,zK,zL⟩:=c3 nN;have adh:=oP.out;have adi:=oO.out;obtain⟨K5,K6,Um,K7,K8,Un⟩:=c3 jO))
         refine bodyPost_ret (fA rfl _ _ vD 89 #[.string Gh,.string anV,.bool false] (0,0) _ rfl (zp jO) Tryz.underlying89 rfl (by kernel_rfl)) rfl ?_
         exact⟨by first|rfl|(simp[gY,gZ]<;>rfl)|(simp only[←II];first|rfl|(simp[gY,gZ]<;>rfl))|(simp[*,gY,gZ]<;>rfl)|(simp[gY,gZ];exact(by intro l_;cases l_<;>rfl:∀l_:List UInt8,l_.isEmpty= !(l_ != [])) _),zb HB⟩
        ·rw[if_neg KY]at H
         exact absurd H (by simp)
       ·rw[if_neg Hl]at H
        exact absurd H (by simp)
     ·replace c18:=Bool.eq_false_iff.mpr c18
      subst c18
      rw[if_neg (show ¬(false=true) by decide)]at H
      simp only[Option.some.injEq,Prod.mk.injEq]at H
      obtain⟨rfl,rfl,rfl,rfl,rfl⟩:=H
      go_wp2_with (first|((with_reducible refine gq 121 rfl ?_);refine gl (some 38) Tryz.func121 #[.string (a1.extract (AV:Int).toNat a1.size)] ?_;(with_reducible refine(bM.calls k (a1.extract (AV:Int).toNat a1.size) Gh a1t false _ Xw.out).mono ?_);rintro e w36 ⟨rfl,hb⟩;refine⟨_,rfl,?_⟩;replace mX:=ah.mk (dR (g:=IE) (o:=.cells #[.slice j4 aH.length j5,.int .i64 aA] 25 (0,0)) (zp mX) hb);replace jO:=ah.mk (dR (g:=vD) (o:=.cells #[.string (⟨#[]⟩:ByteArray),.string (⟨#[]⟩:ByteArray),.bool false] 89 (0,0)) (zp jO) hb);replace nN:=ah.mk (dR (g:=IG) (o:=.cells #[.string (⟨#[]⟩:ByteArray),.string (⟨#[]⟩:ByteArray),.bool false] 89 (0,0)) (zp nN) hb);replace HB:=ah.mk (ai (zb HB) hb);(try clear hb);have Vp:=oP.out;have Vq:=oO.out;have amM:=qA.out;have amN:=qB.out;obtain⟨EB,EC,EF,EG,EH,EI⟩:=c3 jO))
      refine bodyPost_ret (fA rfl _ _ vD 89 #[.string (⟨#[]⟩:ByteArray),.string (⟨#[]⟩:ByteArray),.bool false] (0,0) _ rfl (zp jO) Tryz.underlying89 rfl (by kernel_rfl)) rfl ?_
      exact⟨ze,zb HB⟩
    ·rw[if_neg c16]at H
     exact absurd H (by simp)
   ·rw[if_neg c15]at H
    exact absurd H (by simp)
  ·skip
   have c14b0:(Rp==0)=false:=beq_eq_false_iff_ne.mpr c14
   have c14b1:(Rp != 0)=true:=bne_iff_ne.mpr c14
   (first|rw[c14b0]|rw[c14b1]|rw[c14b2]|(simp only[gI,iB];rw[c14b0])|skip)
   obtain⟨⟨a9r,anW,anX,anY⟩,A40,H⟩:=ob H
   (try dsimp only at H)
   have anZ:=ah.mk H
   clear H
   have acI:=oO.out
   have acJ:=oP.out
   have acK:=xI.out
   have acL:=xJ.out
   obtain⟨Vr,Vs,Vt,Vu⟩:=c2 mX
   go_upto_if 61 with(first|((with_reducible refine gq 117 rfl ?_);refine gl (some 57) Tryz.func117 #[.agg #[.slice j4 aH.length j5,.int .i64 aA],.int .i64 Rp] ?_;(with_reducible refine(kK.calls _ _ aH aA Rp a9r anW anX anY _ ?aN ?aQ A40.out).mono ?_);(case aN=>exact Kd.C_below lM.out (zb HB));(case aQ=>exact pO.out);rintro e w45 ⟨rfl,hb⟩;refine⟨_,rfl,?_⟩;replace mX:=ah.mk (dR (g:=IE) (o:=.cells #[.slice j4 aH.length j5,.int .i64 aA] 25 (0,0)) (zp mX) hb);replace jO:=ah.mk (dR (g:=vD) (o:=.cells #[.string (⟨#[]⟩:ByteArray),.string (⟨#[]⟩:ByteArray),.bool false] 89 (0,0)) (zp jO) hb);replace nN:=ah.mk (dR (g:=IG) (o:=.cells #[.string (⟨#[]⟩:ByteArray),.string (⟨#[]⟩:ByteArray),.bool false] 89 (0,0)) (zp nN) hb);replace HB:=ah.mk (ai (zb HB) hb);(try clear hb))|((with_reducible refine gd 16 rfl ?_);refine bx (N:=16) (cs:=#[.string (⟨#[]⟩:ByteArray),.string (⟨#[]⟩:ByteArray),.bool false]) (t:=89) ?_;intro ao0 hg w46 hbox hb;have VG:=ah.mk (hbox);have ao1:=gw HB hg;have aMF:=ao1;replace HB:=ah.mk (ai (zb HB) hb);obtain⟨IJ,IK⟩:=nb mX hg;replace mX:=kb mX hb;obtain⟨Cb,Cc⟩:=nb jO hg;replace jO:=kb jO hb;obtain⟨IL,IQ⟩:=nb nN hg;replace nN:=kb nN hb;clear hb hbox hg;have aMG:=IK.out;have aMH:=IJ.out;have ao2:=Cc.out;have ao3:=Cb.out;have aMI:=IQ.out;have aMJ:=IL.out;obtain⟨avq,avr,avs,avt,avu,avv⟩:=c3 VG))
   (try simp only[Act.put,s1,s2,s3])
   have H:=anZ.out
   clear anZ
   by_cases c51:anY=true
   ·subst c51
    rw[if_pos rfl]at H
    replace H:=sp H
    rcases H with⟨c52,H⟩|⟨c52,H⟩
    ·skip
     have c52b0:=eq_true c52
     have c52b1:=decide_eq_true c52
     clear c52
     by_cases c53:AV≤(a1.size:Int)
     ·rw[if_pos c53]at H
      have c53b0:=eq_true c53
      have c53b1:=decide_eq_true c53
      clear c53
      obtain⟨⟨ao4,aDG,aDH⟩,A54,H⟩:=ob H
      (try dsimp only at H)
      simp only[Option.some.injEq,Prod.mk.injEq]at H
      obtain⟨rfl,rfl,rfl,rfl,rfl⟩:=H
      have ao5:=IK.out
      have ao6:=IJ.out
      have ao7:=Cc.out
      have ao8:=Cb.out
      have adj:=IQ.out
      have adk:=IL.out
      obtain⟨VH,VI,a9s,VJ,VK,a9t⟩:=c3 VG
      have ao9:=xJ.out
      have aoa:=xI.out
      have aob:=qB.out
      have aoc:=qA.out
      obtain⟨a9u,a9v,avw,a9w,a9x,avx⟩:=c3 nN
      go_wp2_with (first|((with_reducible refine gq 121 rfl ?_);refine gl (some 70) Tryz.func121 #[.string (a1.extract (AV:Int).toNat a1.size)] ?_;(with_reducible refine(bM.calls k (a1.extract (AV:Int).toNat a1.size) ao4 aDG aDH _ A54.out).mono ?_);rintro e w62 ⟨rfl,hb⟩;refine⟨_,rfl,?_⟩;replace mX:=ah.mk (dR (g:=IE) (o:=.cells #[.slice j4 aH.length j5,.int .i64 aA] 25 (0,0)) (zp mX) hb);replace jO:=ah.mk (dR (g:=vD) (o:=.cells #[.string (⟨#[]⟩:ByteArray),.string (⟨#[]⟩:ByteArray),.bool false] 89 (0,0)) (zp jO) hb);replace nN:=ah.mk (dR (g:=IG) (o:=.cells #[.string a9r,.string (⟨#[]⟩:ByteArray),.bool false] 89 (0,0)) (zp nN) hb);replace VG:=ah.mk (dR (g:=ao0) (o:=.cells #[.string a9r,.string anW,.bool anX] 89 (0,0)) (zp VG) hb);replace HB:=ah.mk (ai (zb HB) hb);(try clear hb);obtain⟨avy,avz,avA,avB,avC,avD⟩:=c3 nN;have aMK:=oP.out;have aML:=oO.out;obtain⟨avE,avF,avG,avH,avI,avJ⟩:=c3 jO))
      refine bodyPost_ret (fA rfl _ _ vD 89 #[.string a9r,.string ao4,.bool false] (0,0) _ rfl (zp jO) Tryz.underlying89 rfl (by kernel_rfl)) rfl ?_
      exact⟨ze,zb HB⟩
     ·rw[if_neg c53]at H
      exact absurd H (by simp)
    ·skip
     exact absurd H (by simp)
   ·replace c51:=Bool.eq_false_iff.mpr c51
    subst c51
    rw[if_neg (show ¬(false=true) by decide)]at H
    simp only[Option.some.injEq,Prod.mk.injEq]at H
    obtain⟨rfl,rfl,rfl,rfl,rfl⟩:=H
    have aMM:=oP.out
    have aMN:=oO.out
    have aMO:=qA.out
    have aMP:=qB.out
    have aMQ:=Cb.out
    have aMR:=Cc.out
    obtain⟨avK,avL,avM,avN,avO,avP⟩:=c3 jO
    go_wp2
    refine bodyPost_ret (fA rfl _ _ vD 89 #[.string (⟨#[]⟩:ByteArray),.string (⟨#[]⟩:ByteArray),.bool false] (0,0) _ rfl (zp jO) Tryz.underlying89 rfl (by kernel_rfl)) rfl ?_
    exact⟨ze,zb HB⟩
 ·replace c8:=Bool.eq_false_iff.mpr c8
  subst c8
  rw[if_neg (show ¬(false=true) by decide)]at H
  simp only[Option.some.injEq,Prod.mk.injEq]at H
  obtain⟨rfl,rfl,rfl,rfl,rfl⟩:=H
  have aMS:=oP.out
  have aMT:=oO.out
  obtain⟨avQ,avR,avS,avT,avU,avV⟩:=c3 jO
  go_wp2
  refine bodyPost_ret (fA rfl _ _ vD 89 #[.string (⟨#[]⟩:ByteArray),.string (⟨#[]⟩:ByteArray),.bool false] (0,0) _ rfl (zp jO) Tryz.underlying89 rfl (by kernel_rfl)) rfl ?_
  exact⟨ze,zb HB⟩
end Go.Proofs.YtokblgdgpnakpaaGreat.PFnEndLess
