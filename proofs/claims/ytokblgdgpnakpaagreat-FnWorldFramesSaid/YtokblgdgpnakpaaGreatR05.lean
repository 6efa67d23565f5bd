/- FnWorldFrames holds: part 5 of a proof that the given program meets it (printed texts and walks of our own, made short by a program). No condition. -/
import Derived.Test.YtokblgdgpnakpaaGreatR04
set_option linter.unusedVariables false
set_option linter.unusedSimpArgs false
set_option maxHeartbeats 8000000
set_option maxRecDepth 100000
namespace Go.Proofs.YtokblgdgpnakpaaGreat.PFnEndLess
open Go.RowKit Go.Proofs.YtokblgdgpnakpaaGreatW.PrintWords Go.Proofs.YtokblgdgpnakpaaGreatW.PrintLast Go.Proofs.YtokblgdgpnakpaaGreatW.PrintMore Go.Proofs.YtokblgdgpnakpaaGreat.Lm
attribute [local go_sem] bA bn bV bW aW aV bE bF
def dB.l0:Nat→List (bf)→ByteArray→Int→List (bf)→Int→Option ((List (bf))×Int×ByteArray)
 |0,_,_,_,_,_=>none
 |k+1,x1,x6,x7,VX,VY=>if x7<(x1.length:Int)then(if 0≤x7 then((cB.f k VX VY ((aU x1 x7).f0) ((aU x1 x7).f1) ((aU x1 x7).f2)).bind fun VZ=>(if x6.size+VZ.2.2.size≤9223372036854775807 then(dB.l0 k x1 (x6++VZ.2.2) (wrap64 (x7+1)) VZ.1 VZ.2.1)else(none)))else(none))else(some (VX,VY,x6))
def dB.f(k:Nat)(aH:List (bf))(aA:Int)(l1:List (bf)):Option ((List (bf))×Int×ByteArray):=dB.l0 k l1 (⟨#[]⟩:ByteArray) 0 aH aA
theorem dB.mono_l:∀k,(∀y0 y1 y2 y3 y4,gM (dB.l0 k y0 y1 y2 y3 y4) (dB.l0 (k+1) y0 y1 y2 y3 y4))
 |0=>fun _ _ _ _ _ r h=>by simp[dB.l0]at h
 |k+1=>by
  have mW:=dB.mono_l k
  ·intro y0 y1 y2 y3 y4
   unfold dB.l0
   have m0:=@cB.mono
   exact zm
theorem dB.mono:∀a0 a1 a2 k,gM (dB.f k a0 a1 a2) (dB.f (k+1) a0 a1 a2):=by
 intro a0 a1 a2 k
 have mW:=dB.mono_l k
 unfold dB.f
 have m0:=@cB.mono
 exact zm
def dB.T5:Bool×List (List Nat×List Nat):=(true,[([],[]),([],[]),([],[]),([1,2],[1,2]),([3],[3]),([0,4],[0,4]),([5],[5]),([6],[6]),([6],[6]),([],[]),([9,7,5,0,1,2,3,4,5,6,7,9],[7,9]),([8,10,0,1,2,3,4,5,6,7,8,9,10],[8])])
def dB.B5:List Nat:=[0,0,0,6,14,31,63,127,127,0,767,2047]
theorem dB.tab5:jG .any (opsOf Tryz.f96 5)=dB.T5:=by kernel_rfl
theorem dB.bits5:fQ dB.T5.2 dB.B5=true:=by kernel_rfl
theorem dB.calls(k:Nat)(jw:Nat→Prop)(l8:Value)(aH:List (bf))(aA:Int)(A1:Option Addr)(c1:Nat)(l1:List (bf))(r1:List (bf))(r2:Int)(r3:ByteArray)(w0 w:World)(hB:Below w0.heap.size w0 w)(Gi:Kd.R iH 89 w w0.heap.size jw l8 aH)(hr1:∀W_,Kept w W_ (fun _=>False)→Kd.C iH W_ A1 l1.length l1)(hc1:l1.length≤c1)(h:dB.f k aH aA l1=some (r1,r2,r3)):
 Calls Tryz.prog 96 #[.agg #[l8,.int .i64 aA],.slice A1 l1.length c1] w fun e w'=>∃vM:Value,e= .returned (.tuple #[.agg #[vM,.int .i64 r2],.string r3])∧Kd.R iH 89 w' w0.heap.size (fun k_=>(jw k_∨w.heap.size≤k_)) vM r1∧Below w0.heap.size w0 w'∧Kept w w' (fun _=>False):=by
 have Ab:=Tryz.underlying25
 have sN:=Tryz.underlying89
 have bH:=ah.mk (show Kd.R iH 89 w w0.heap.size (fun k_=>(jw k_∨w.heap.size≤k_)) l8 aH from Kd.R_mono Gi (fun k_ hk=>(.inl hk)))
 have HR1:=ah.mk hr1
 have HC1:=ah.mk hc1
 clear hr1 hc1
 have HK:=ah.mk (Kept.refl w (fun _=>False))
 have HW0:=ah.mk hB.size
 have HB:=ah.mk hB
 clear hB
 have H:(dB.l0 k l1 (⟨#[]⟩:ByteArray) 0 aH aA)=some (r1,r2,r3):=h
 clear h
 have H':=ah.mk H
 clear H
 obtain⟨Ao3,co3,eo3⟩:=Kd.R_slice bH.out
 subst eo3
 go_enter Tryz.func96,Tryz.ntmps96
 go_wp2_with (first|((with_reducible refine gd 2 rfl ?_);refine bx (N:=2) (cs:=#[.slice Ao3 aH.length co3,.int .i64 aA]) (t:=25) ?_;intro o5 hg w4 hbox hb;replace bH:=ah.mk (Kd.R_below (zr bH) hb);have j3:=ah.mk (hbox);have J2:=ah.mk ((by rw[hg];exact(kz (w:=w)).1:w.heap.size≤o5));replace HK:=kq hb;have aOn:=ah.mk ((by rw[hg];exact(aJ (zb HB)):w0.heap.size≤o5));replace HB:=ah.mk (ai (zb HB) hb);clear hb hbox hg)|((with_reducible refine gd 4 rfl ?_);refine bx (N:=4) (cs:=#[.slice none 0 0,.int .i64 0]) (t:=25) ?_;intro si hg w5 hbox hb;replace bH:=ah.mk (Kd.R_below (zr bH) hb);have lC:=ah.mk (hbox);have J3:=ah.mk ((by rw[hg];exact(kz (w:=w)).1:w.heap.size≤si));replace HK:=kq hb;have aOo:=ah.mk ((by rw[hg];exact(aJ (zb HB)):w0.heap.size≤si));replace HB:=ah.mk (ai (zb HB) hb);obtain⟨J4,J5⟩:=nb j3 hg;replace j3:=kb j3 hb;clear hb hbox hg))
 go_loopg [6,7] k (fun kq v6 v7 w'=>∃(iW:ByteArray)(fE:Int)(iL:List (bf))(jN:Int)(Lf:Value),v6= .string iW∧v7= .int .i64 fE∧ah (dB.l0 kq l1 iW fE iL jN=some (r1,r2,r3))∧ah (kq≤k)∧ah (Kd.R iH 89 w' w0.heap.size (fun k_=>(jw k_∨w.heap.size≤k_)) Lf iL)∧ah (w'.heap[o5]?=some (.cells #[Lf,.int .i64 jN] 25 (0,0)))∧ah (w'.heap[si]?=some (.cells #[(.slice none 0 0),.int .i64 0] 25 (0,0)))∧ah (Kept w w' (fun _=>False))∧ah (Below w0.heap.size w0 w'))
 case atStart=>exact⟨((⟨#[]⟩:ByteArray)),(0),(aH),(aA),(.slice Ao3 aH.length co3),zs,zs,H',⟨Nat.le_refl _⟩,⟨by exact zr bH⟩,⟨by exact zk j3⟩,⟨by exact zk lC⟩,⟨kz⟩,⟨zb HB⟩⟩
 case round=>
  clear H'
  try clear c1
  try clear p2
  obtain⟨iW,fE,iL,jN,Lf,rfl,rfl,HA,jd,HO_462000,j3,lC,HK,HB⟩:=hrel
  cases gk with
  |zero=>exact absurd HA.out (by simp[dB.l0])
  |succ k1=>
   have H:=HA.out
   clear HA
   simp only[dB.l0]at H
   replace H:=sp H
   rcases H with⟨c6,H⟩|⟨c6,H⟩
   ·skip
    have c6b0:=decide_eq_true c6
    clear c6
    by_cases c7:0≤fE
    ·rw[if_pos c7]at H
     have c7b0:=decide_eq_true c7
     clear c7
     obtain⟨⟨XW,XY,PG⟩,A8,H⟩:=ob H
     (try dsimp only at H)
     by_cases c9:iW.size+PG.size≤9223372036854775807
     ·rw[if_pos c9]at H
      have c9b0:=eq_true c9
      have c9b1:=decide_eq_true c9
      try have c9b2:(9223372036854775807<iW.size+PG.size)=False:=eq_false (Nat.not_lt.2 c9)
      have H':=ah.mk H
      clear H
      obtain⟨BR,yV,XC⟩:=Kd.R_slice HO_462000.out
      subst XC
      try go_wp2
      replace HO_462000:=ah.mk (Kd.R_drew HO_462000.out)
      replace j3:=ah.mk (dw j3.out)
      replace lC:=ah.mk (dw lC.out)
      replace HK:=ah.mk (Kept.drew HK.out)
      replace HB:=ah.mk (dF HB.out)
      have lg:0≤(fE:Int):=of_decide_eq_true za
      have lm:fE<(l1.length:Int):=of_decide_eq_true za
      obtain⟨qY,aEv,W9,Wd,Wh⟩:=eT (Kd.C_kept_now HR1.out HK.out) fE lg lm
      have azo:=Wh
      have azp:=Wd
      have azq:=W9
      cases aEv
      replace lg:=eq_true lg
      replace lm:=eq_true lm
      refine uG (n:=12) (S:=fun w'=>w'.cell? ⟨o5,0,none⟩=some (.slice BR iL.length yV)∧w'.cell? ⟨o5,1,none⟩=some (.int .i64 jN)∧w'.cell? (qY.add ((fE).toNat*3))=some (.string ((aU l1 fE).f0))∧w'.cell? ⟨(qY.add ((fE).toNat*3)).block,(qY.add ((fE).toNat*3)).off+1,none⟩=some (.string ((aU l1 fE).f1))∧w'.cell? ⟨(qY.add ((fE).toNat*3)).block,(qY.add ((fE).toNat*3)).off+2,none⟩=some (.bool ((aU l1 fE).f2))) (ds:=[]) #[false,false,false,false,false,false,false,false,false,false,false,false] (by kernel_rfl) rfl rfl ⟨(ak j3.out 0).trans rfl,(ak j3.out 1).trans rfl,(by first|(show World.cell? ?W1_ _=_;obtain⟨_,e_,qZ,rf,rq⟩:=eT (HR1.out ?W1_ (by repeat(first|exact HK.out|apply Kept.alloc|apply Kept.drewN|apply Kept.drew|refine Kept.setCell ?_ (.inr dX.out) _|refine Kept.setCell ?_ (.inr dX.out) _))) fE (of_eq_true lg) (of_eq_true lm);cases e_;exact qZ)|(obtain⟨_,e_,qZ,rf,rq⟩:=eT (HR1.out _ (by repeat(first|exact HK.out|apply Kept.alloc|apply Kept.drewN|apply Kept.drew|refine Kept.setCell ?_ (.inr dX.out) _|refine Kept.setCell ?_ (.inr dX.out) _))) fE (of_eq_true lg) (of_eq_true lm);cases e_;exact qZ)),(by first|(show World.cell? ?W2_ _=_;obtain⟨_,e_,qZ,rf,rq⟩:=eT (HR1.out ?W2_ (by repeat(first|exact HK.out|apply Kept.alloc|apply Kept.drewN|apply Kept.drew|refine Kept.setCell ?_ (.inr dX.out) _|refine Kept.setCell ?_ (.inr dX.out) _))) fE (of_eq_true lg) (of_eq_true lm);cases e_;exact rf)|(obtain⟨_,e_,qZ,rf,rq⟩:=eT (HR1.out _ (by repeat(first|exact HK.out|apply Kept.alloc|apply Kept.drewN|apply Kept.drew|refine Kept.setCell ?_ (.inr dX.out) _|refine Kept.setCell ?_ (.inr dX.out) _))) fE (of_eq_true lg) (of_eq_true lm);cases e_;exact rf)),(by first|(show World.cell? ?W3_ _=_;obtain⟨_,e_,qZ,rf,rq⟩:=eT (HR1.out ?W3_ (by repeat(first|exact HK.out|apply Kept.alloc|apply Kept.drewN|apply Kept.drew|refine Kept.setCell ?_ (.inr dX.out) _|refine Kept.setCell ?_ (.inr dX.out) _))) fE (of_eq_true lg) (of_eq_true lm);cases e_;exact rq)|(obtain⟨_,e_,qZ,rf,rq⟩:=eT (HR1.out _ (by repeat(first|exact HK.out|apply Kept.alloc|apply Kept.drewN|apply Kept.drew|refine Kept.setCell ?_ (.inr dX.out) _|refine Kept.setCell ?_ (.inr dX.out) _))) fE (of_eq_true lg) (of_eq_true lm);cases e_;exact rq))⟩ (fun hHeld=>?_);refine bK dB.tab5 dB.bits5 (fun HT_ HW_=>?_)
      generalize wr.drew=w11 at HO_462000 j3 lC HK HB W9 Wd Wh hHeld ⊢
      refine pu 1 (some 18) (bm 12 2) rfl rfl ?_
      refine pu 2 (some 19) (bm 12 6) rfl rfl ?_
      refine pu 3 (some 20) (bm 12 14) rfl rfl ?_
      refine tk 0 (some 17) (bm 12 15) rfl rfl hHeld ?_
      refine tk 4 (some 21) (bm 12 31) rfl rfl hHeld ?_
      refine abC (σ:=Value×Nat) 2 #[true,true,true,true,true,true,true,true,true,true,false,false] (fun s_=>[(22,.tuple #[.agg #[s_.1,.int .i64 XY],.string PG]),(8,.pointer (some ⟨s_.2,0,none⟩)),(16,.tuple #[.agg #[s_.1,.int .i64 XY],.string PG]),(23,.agg #[s_.1,.int .i64 XY]),(24,.string PG)]) (fun s_ w'=>(w'.cell? ⟨o5,0,none⟩=some (.slice BR iL.length yV)∧w'.cell? ⟨o5,1,none⟩=some (.int .i64 jN)∧w'.cell? (qY.add ((fE).toNat*3))=some (.string ((aU l1 fE).f0))∧w'.cell? ⟨(qY.add ((fE).toNat*3)).block,(qY.add ((fE).toNat*3)).off+1,none⟩=some (.string ((aU l1 fE).f1))∧w'.cell? ⟨(qY.add ((fE).toNat*3)).block,(qY.add ((fE).toNat*3)).off+2,none⟩=some (.bool ((aU l1 fE).f2)))∧(Kd.R iH 89 w' w0.heap.size (fun k_=>(jw k_∨w.heap.size≤k_)) s_.1 XW)∧(w'.heap[o5]?=some (.cells #[.slice BR iL.length yV,.int .i64 jN] 25 (0,0)))∧(w'.heap[si]?=some (.cells #[.slice none 0 0,.int .i64 0] 25 (0,0)))∧(w'.heap[s_.2]?=some (.cells #[.slice none 0 0,.int .i64 0] 25 (0,0)))∧(w.heap.size≤s_.2)∧(w0.heap.size≤s_.2)∧(o5≠s_.2)∧(s_.2≠o5)∧(si≠s_.2)∧(s_.2≠si)∧(Kept w w' (fun _=>False))∧(Below w0.heap.size w0 w')) ?_ ?_
      rotate_left
      ·intro hCont
       refine aea (i:=5) (j:=9) (Ni:=some 22) (Nj:=some 8) #[true,true,true,true,true,true,false,false,false,false,false,false] #[true,true,true,true,true,false,false,false,false,true,false,false] rfl rfl rfl rfl (R3 HT_.out (by kernel_rfl)) (by decide) (by decide) (fun K hK=>?_) (fun K hK=>?_)
       ·skip
        refine gs Tryz.func98 #[.agg #[.slice BR iL.length yV,.int .i64 jN],.agg #[.string ((aU l1 fE).f0),.string ((aU l1 fE).f1),.bool ((aU l1 fE).f2)]] ?_
        with_reducible refine(cB.calls k1 (fun k_=>some k_=(.slice BR iL.length yV:Value).ownBlock) (.slice BR iL.length yV) iL jN ((aU l1 fE).f0) ((aU l1 fE).f1) ((aU l1 fE).f2) XW XY PG w0 _ ?aN ?aQ A8.out).mono ?_
        (case aN=>exact zb HB)
        (case aQ=>exact Kd.R_tight rfl HO_462000.out)
        rintro e Xu ⟨a1M,rfl,ho0,hb,hkp⟩
        refine⟨_,rfl,?_⟩
        replace j3:=ah.mk (mZ (zk j3) hkp (fun h_=>h_))
        replace lC:=ah.mk (mZ (zk lC) hkp (fun h_=>h_))
        have Dy:=ah.mk (Kd.R_mono (ok':=fun k_=>(jw k_∨w.heap.size≤k_)) ho0 (fun k_ OT=>Or.elim OT (fun hs_=>(HO_462000.out.1 k_ (hs_).symm)) (fun Rs=>(.inr (Nat.le_trans (by first|exact HK.out.1|exact(show Kept w _ (fun _=>False)from by repeat(first|(with_reducible first|exact HK.out|apply Kept.alloc|apply Kept.drewN|apply Kept.drew|refine Kept.setCell ?_ (.inr J2.out) _|refine Kept.setCell ?_ (.inr J3.out) _)|exact HK.out)).1) Rs)))))
        replace HK:=ah.mk (Kept.then_ (S:=(fun _=>False)) (by repeat(first|(with_reducible first|exact HK.out|apply Kept.alloc|apply Kept.drewN|apply Kept.drew|refine Kept.setCell ?_ (.inr J2.out) _|refine Kept.setCell ?_ (.inr J3.out) _)|exact HK.out)) hkp (fun _ h_=>h_.elim))
        replace HB:=ah.mk (hb)
        clear HO_462000
        (try clear hb)
        (try clear hkp)
        (try clear ho0)
        refine hK.out _ _ ⟨(ak j3.out 0).trans rfl,(ak j3.out 1).trans rfl,(by first|(show World.cell? ?W4_ _=_;obtain⟨_,e_,qZ,rf,rq⟩:=eT (HR1.out ?W4_ (by repeat(first|exact HK.out|apply Kept.alloc|apply Kept.drewN|apply Kept.drew|refine Kept.setCell ?_ (.inr dX.out) _|refine Kept.setCell ?_ (.inr dX.out) _))) fE (of_eq_true lg) (of_eq_true lm);cases e_;exact qZ)|(obtain⟨_,e_,qZ,rf,rq⟩:=eT (HR1.out _ (by repeat(first|exact HK.out|apply Kept.alloc|apply Kept.drewN|apply Kept.drew|refine Kept.setCell ?_ (.inr dX.out) _|refine Kept.setCell ?_ (.inr dX.out) _))) fE (of_eq_true lg) (of_eq_true lm);cases e_;exact qZ)),(by first|(show World.cell? ?W5_ _=_;obtain⟨_,e_,qZ,rf,rq⟩:=eT (HR1.out ?W5_ (by repeat(first|exact HK.out|apply Kept.alloc|apply Kept.drewN|apply Kept.drew|refine Kept.setCell ?_ (.inr dX.out) _|refine Kept.setCell ?_ (.inr dX.out) _))) fE (of_eq_true lg) (of_eq_true lm);cases e_;exact rf)|(obtain⟨_,e_,qZ,rf,rq⟩:=eT (HR1.out _ (by repeat(first|exact HK.out|apply Kept.alloc|apply Kept.drewN|apply Kept.drew|refine Kept.setCell ?_ (.inr dX.out) _|refine Kept.setCell ?_ (.inr dX.out) _))) fE (of_eq_true lg) (of_eq_true lm);cases e_;exact rf)),(by first|(show World.cell? ?W6_ _=_;obtain⟨_,e_,qZ,rf,rq⟩:=eT (HR1.out ?W6_ (by repeat(first|exact HK.out|apply Kept.alloc|apply Kept.drewN|apply Kept.drew|refine Kept.setCell ?_ (.inr dX.out) _|refine Kept.setCell ?_ (.inr dX.out) _))) fE (of_eq_true lg) (of_eq_true lm);cases e_;exact rq)|(obtain⟨_,e_,qZ,rf,rq⟩:=eT (HR1.out _ (by repeat(first|exact HK.out|apply Kept.alloc|apply Kept.drewN|apply Kept.drew|refine Kept.setCell ?_ (.inr dX.out) _|refine Kept.setCell ?_ (.inr dX.out) _))) fE (of_eq_true lg) (of_eq_true lm);cases e_;exact rq))⟩ (fun hHeld=>?_)
        clear hK K
        refine nm ?_
        refine pu 6 (some 16) (bm 12 127) rfl rfl ?_
        refine pu 7 (some 23) (bm 12 255) rfl rfl ?_
        refine pu 8 (some 24) (bm 12 511) rfl rfl ?_
        refine iN (i:=9) (N:=some 8) (bm 12 1023) rfl rfl (eG HT_.out (by kernel_rfl)) (by decide) (fun K hK=>?_)
        refine zC ?hg (N:=8) ?hd (cs:=#[.slice none 0 0,.int .i64 0]) (t:=25) ?hr ?_;(case hd=>rfl);(case hg=>rfl);(case hr=>first|(go_simp;done)|(go_simp;rfl))
        intro jW hg w13 hbox hb
        replace Dy:=ah.mk (Kd.R_below (zr Dy) hb)
        have vE:=ah.mk (hbox)
        have dX:=ah.mk ((by rw[hg];exact(kz (w:=w)).1:w.heap.size≤jW))
        replace HK:=kq hb
        have Wi:=ah.mk ((by rw[hg];exact(aJ (zb HB)):w0.heap.size≤jW))
        replace HB:=ah.mk (ai (zb HB) hb)
        have kM:=ah.mk ((by rw[hg];exact Nat.ne_of_lt (gJ (zk j3)):o5≠jW))
        have oZ:=ah.mk ((by rw[hg];exact Nat.ne_of_gt (gJ (zk j3)):jW≠o5))
        replace j3:=kb j3 hb
        have pq:=ah.mk ((by rw[hg];exact Nat.ne_of_lt (gJ (zk lC)):si≠jW))
        have pz:=ah.mk ((by rw[hg];exact Nat.ne_of_gt (gJ (zk lC)):jW≠si))
        replace lC:=kb lC hb
        clear hb hbox hg
        refine hK.out _ _ ⟨(ak j3.out 0).trans rfl,(ak j3.out 1).trans rfl,(by first|(show World.cell? ?W7_ _=_;obtain⟨_,e_,qZ,rf,rq⟩:=eT (HR1.out ?W7_ (by repeat(first|exact HK.out|apply Kept.alloc|apply Kept.drewN|apply Kept.drew|refine Kept.setCell ?_ (.inr dX.out) _|refine Kept.setCell ?_ (.inr dX.out) _))) fE (of_eq_true lg) (of_eq_true lm);cases e_;exact qZ)|(obtain⟨_,e_,qZ,rf,rq⟩:=eT (HR1.out _ (by repeat(first|exact HK.out|apply Kept.alloc|apply Kept.drewN|apply Kept.drew|refine Kept.setCell ?_ (.inr dX.out) _|refine Kept.setCell ?_ (.inr dX.out) _))) fE (of_eq_true lg) (of_eq_true lm);cases e_;exact qZ)),(by first|(show World.cell? ?W8_ _=_;obtain⟨_,e_,qZ,rf,rq⟩:=eT (HR1.out ?W8_ (by repeat(first|exact HK.out|apply Kept.alloc|apply Kept.drewN|apply Kept.drew|refine Kept.setCell ?_ (.inr dX.out) _|refine Kept.setCell ?_ (.inr dX.out) _))) fE (of_eq_true lg) (of_eq_true lm);cases e_;exact rf)|(obtain⟨_,e_,qZ,rf,rq⟩:=eT (HR1.out _ (by repeat(first|exact HK.out|apply Kept.alloc|apply Kept.drewN|apply Kept.drew|refine Kept.setCell ?_ (.inr dX.out) _|refine Kept.setCell ?_ (.inr dX.out) _))) fE (of_eq_true lg) (of_eq_true lm);cases e_;exact rf)),(by first|(show World.cell? ?W9_ _=_;obtain⟨_,e_,qZ,rf,rq⟩:=eT (HR1.out ?W9_ (by repeat(first|exact HK.out|apply Kept.alloc|apply Kept.drewN|apply Kept.drew|refine Kept.setCell ?_ (.inr dX.out) _|refine Kept.setCell ?_ (.inr dX.out) _))) fE (of_eq_true lg) (of_eq_true lm);cases e_;exact rq)|(obtain⟨_,e_,qZ,rf,rq⟩:=eT (HR1.out _ (by repeat(first|exact HK.out|apply Kept.alloc|apply Kept.drewN|apply Kept.drew|refine Kept.setCell ?_ (.inr dX.out) _|refine Kept.setCell ?_ (.inr dX.out) _))) fE (of_eq_true lg) (of_eq_true lm);cases e_;exact rq))⟩ (fun hHeld=>?_)
        clear hK K
        refine nm ?_
        exact Db (by simp only[sM,Act.put,s1,s2,s3]) (hCont (a1M,jW) _ ⟨hHeld,(zr Dy),(zk j3),(zk lC),(zk vE),dX.out,Wi.out,kM.out,oZ.out,pq.out,pz.out,(by repeat(first|(with_reducible first|exact HK.out|apply Kept.alloc|apply Kept.drewN|apply Kept.drew|refine Kept.setCell ?_ (.inr J2.out) _|refine Kept.setCell ?_ (.inr J3.out) _|refine Kept.setCell ?_ (.inr dX.out) _)|exact HK.out)),(zb HB)⟩)
       ·skip
        refine zC ?hg (N:=8) ?hd (cs:=#[.slice none 0 0,.int .i64 0]) (t:=25) ?hr ?_;(case hd=>rfl);(case hg=>rfl);(case hr=>first|(go_simp;done)|(go_simp;rfl))
        intro jW hg Xu hbox hb
        replace HO_462000:=ah.mk (Kd.R_below (zr HO_462000) hb)
        have vE:=ah.mk (hbox)
        have dX:=ah.mk ((by rw[hg];exact(kz (w:=w)).1:w.heap.size≤jW))
        replace HK:=kq hb
        have Wi:=ah.mk ((by rw[hg];exact(aJ (zb HB)):w0.heap.size≤jW))
        replace HB:=ah.mk (ai (zb HB) hb)
        have kM:=ah.mk ((by rw[hg];exact Nat.ne_of_lt (gJ (zk j3)):o5≠jW))
        have oZ:=ah.mk ((by rw[hg];exact Nat.ne_of_gt (gJ (zk j3)):jW≠o5))
        replace j3:=kb j3 hb
        have pq:=ah.mk ((by rw[hg];exact Nat.ne_of_lt (gJ (zk lC)):si≠jW))
        have pz:=ah.mk ((by rw[hg];exact Nat.ne_of_gt (gJ (zk lC)):jW≠si))
        replace lC:=kb lC hb
        clear hb hbox hg
        refine hK.out _ _ ⟨(ak j3.out 0).trans rfl,(ak j3.out 1).trans rfl,(by first|(show World.cell? ?aEw _=_;obtain⟨_,e_,qZ,rf,rq⟩:=eT (HR1.out ?aEw (by repeat(first|exact HK.out|apply Kept.alloc|apply Kept.drewN|apply Kept.drew|refine Kept.setCell ?_ (.inr dX.out) _|refine Kept.setCell ?_ (.inr dX.out) _))) fE (of_eq_true lg) (of_eq_true lm);cases e_;exact qZ)|(obtain⟨_,e_,qZ,rf,rq⟩:=eT (HR1.out _ (by repeat(first|exact HK.out|apply Kept.alloc|apply Kept.drewN|apply Kept.drew|refine Kept.setCell ?_ (.inr dX.out) _|refine Kept.setCell ?_ (.inr dX.out) _))) fE (of_eq_true lg) (of_eq_true lm);cases e_;exact qZ)),(by first|(show World.cell? ?aEx _=_;obtain⟨_,e_,qZ,rf,rq⟩:=eT (HR1.out ?aEx (by repeat(first|exact HK.out|apply Kept.alloc|apply Kept.drewN|apply Kept.drew|refine Kept.setCell ?_ (.inr dX.out) _|refine Kept.setCell ?_ (.inr dX.out) _))) fE (of_eq_true lg) (of_eq_true lm);cases e_;exact rf)|(obtain⟨_,e_,qZ,rf,rq⟩:=eT (HR1.out _ (by repeat(first|exact HK.out|apply Kept.alloc|apply Kept.drewN|apply Kept.drew|refine Kept.setCell ?_ (.inr dX.out) _|refine Kept.setCell ?_ (.inr dX.out) _))) fE (of_eq_true lg) (of_eq_true lm);cases e_;exact rf)),(by first|(show World.cell? ?aEy _=_;obtain⟨_,e_,qZ,rf,rq⟩:=eT (HR1.out ?aEy (by repeat(first|exact HK.out|apply Kept.alloc|apply Kept.drewN|apply Kept.drew|refine Kept.setCell ?_ (.inr dX.out) _|refine Kept.setCell ?_ (.inr dX.out) _))) fE (of_eq_true lg) (of_eq_true lm);cases e_;exact rq)|(obtain⟨_,e_,qZ,rf,rq⟩:=eT (HR1.out _ (by repeat(first|exact HK.out|apply Kept.alloc|apply Kept.drewN|apply Kept.drew|refine Kept.setCell ?_ (.inr dX.out) _|refine Kept.setCell ?_ (.inr dX.out) _))) fE (of_eq_true lg) (of_eq_true lm);cases e_;exact rq))⟩ (fun hHeld=>?_)
        clear hK K
        refine nm ?_
        refine iN (i:=5) (N:=some 22) (bm 12 575) rfl rfl (eG HT_.out (by kernel_rfl)) (by decide) (fun K hK=>?_)
        refine gs Tryz.func98 #[.agg #[.slice BR iL.length yV,.int .i64 jN],.agg #[.string ((aU l1 fE).f0),.string ((aU l1 fE).f1),.bool ((aU l1 fE).f2)]] ?_
        with_reducible refine(cB.calls k1 (fun k_=>some k_=(.slice BR iL.length yV:Value).ownBlock) (.slice BR iL.length yV) iL jN ((aU l1 fE).f0) ((aU l1 fE).f1) ((aU l1 fE).f2) XW XY PG w0 _ ?aN ?aQ A8.out).mono ?_
        (case aN=>exact zb HB)
        (case aQ=>exact Kd.R_tight rfl HO_462000.out)
        rintro e w13 ⟨a1M,rfl,ho0,hb,hkp⟩
        refine⟨_,rfl,?_⟩
        replace j3:=ah.mk (mZ (zk j3) hkp (fun h_=>h_))
        replace lC:=ah.mk (mZ (zk lC) hkp (fun h_=>h_))
        replace vE:=ah.mk (mZ (zk vE) hkp (fun h_=>h_))
        have Dy:=ah.mk (Kd.R_mono (ok':=fun k_=>(jw k_∨w.heap.size≤k_)) ho0 (fun k_ OT=>Or.elim OT (fun hs_=>(HO_462000.out.1 k_ (hs_).symm)) (fun Rs=>(.inr (Nat.le_trans (by first|exact HK.out.1|exact(show Kept w _ (fun _=>False)from by repeat(first|(with_reducible first|exact HK.out|apply Kept.alloc|apply Kept.drewN|apply Kept.drew|refine Kept.setCell ?_ (.inr J2.out) _|refine Kept.setCell ?_ (.inr J3.out) _|refine Kept.setCell ?_ (.inr dX.out) _)|exact HK.out)).1) Rs)))))
        replace HK:=ah.mk (Kept.then_ (S:=(fun _=>False)) (by repeat(first|(with_reducible first|exact HK.out|apply Kept.alloc|apply Kept.drewN|apply Kept.drew|refine Kept.setCell ?_ (.inr J2.out) _|refine Kept.setCell ?_ (.inr J3.out) _|refine Kept.setCell ?_ (.inr dX.out) _)|exact HK.out)) hkp (fun _ h_=>h_.elim))
        replace HB:=ah.mk (hb)
        clear HO_462000
        (try clear hb)
        (try clear hkp)
        (try clear ho0)
        refine hK.out _ _ ⟨(ak j3.out 0).trans rfl,(ak j3.out 1).trans rfl,(by first|(show World.cell? ?aEz _=_;obtain⟨_,e_,qZ,rf,rq⟩:=eT (HR1.out ?aEz (by repeat(first|exact HK.out|apply Kept.alloc|apply Kept.drewN|apply Kept.drew|refine Kept.setCell ?_ (.inr dX.out) _|refine Kept.setCell ?_ (.inr dX.out) _))) fE (of_eq_true lg) (of_eq_true lm);cases e_;exact qZ)|(obtain⟨_,e_,qZ,rf,rq⟩:=eT (HR1.out _ (by repeat(first|exact HK.out|apply Kept.alloc|apply Kept.drewN|apply Kept.drew|refine Kept.setCell ?_ (.inr dX.out) _|refine Kept.setCell ?_ (.inr dX.out) _))) fE (of_eq_true lg) (of_eq_true lm);cases e_;exact qZ)),(by first|(show World.cell? ?aEA _=_;obtain⟨_,e_,qZ,rf,rq⟩:=eT (HR1.out ?aEA (by repeat(first|exact HK.out|apply Kept.alloc|apply Kept.drewN|apply Kept.drew|refine Kept.setCell ?_ (.inr dX.out) _|refine Kept.setCell ?_ (.inr dX.out) _))) fE (of_eq_true lg) (of_eq_true lm);cases e_;exact rf)|(obtain⟨_,e_,qZ,rf,rq⟩:=eT (HR1.out _ (by repeat(first|exact HK.out|apply Kept.alloc|apply Kept.drewN|apply Kept.drew|refine Kept.setCell ?_ (.inr dX.out) _|refine Kept.setCell ?_ (.inr dX.out) _))) fE (of_eq_true lg) (of_eq_true lm);cases e_;exact rf)),(by first|(show World.cell? ?aEB _=_;obtain⟨_,e_,qZ,rf,rq⟩:=eT (HR1.out ?aEB (by repeat(first|exact HK.out|apply Kept.alloc|apply Kept.drewN|apply Kept.drew|refine Kept.setCell ?_ (.inr dX.out) _|refine Kept.setCell ?_ (.inr dX.out) _))) fE (of_eq_true lg) (of_eq_true lm);cases e_;exact rq)|(obtain⟨_,e_,qZ,rf,rq⟩:=eT (HR1.out _ (by repeat(first|exact HK.out|apply Kept.alloc|apply Kept.drewN|apply Kept.drew|refine Kept.setCell ?_ (.inr dX.out) _|refine Kept.setCell ?_ (.inr dX.out) _))) fE (of_eq_true lg) (of_eq_true lm);cases e_;exact rq))⟩ (fun hHeld=>?_)
        clear hK K
        refine nm ?_
        refine pu 6 (some 16) (bm 12 639) rfl rfl ?_
        refine pu 7 (some 23) (bm 12 767) rfl rfl ?_
        refine pu 8 (some 24) (bm 12 1023) rfl rfl ?_
        exact Db (by simp only[sM,Act.put,s1,s2,s3]) (hCont (a1M,jW) _ ⟨hHeld,(zr Dy),(zk j3),(zk lC),(zk vE),dX.out,Wi.out,kM.out,oZ.out,pq.out,pz.out,(by repeat(first|(with_reducible first|exact HK.out|apply Kept.alloc|apply Kept.drewN|apply Kept.drew|refine Kept.setCell ?_ (.inr J2.out) _|refine Kept.setCell ?_ (.inr J3.out) _|refine Kept.setCell ?_ (.inr dX.out) _)|exact HK.out)),(zb HB)⟩)
      rintro⟨a1M,jW⟩ DX ⟨hS_,h0_,h1_,h2_,h3_,h4_,h5_,h6_,h7_,h8_,h9_,apJ,apK⟩
      have tQ:ah (Kd.R iH 89 DX w0.heap.size (fun k_=>(jw k_∨w.heap.size≤k_)) a1M XW):=⟨h0_⟩
      have tT:ah (DX.heap[o5]?=some (.cells #[.slice BR iL.length yV,.int .i64 jN] 25 (0,0))):=⟨h1_⟩
      have vz:ah (DX.heap[si]?=some (.cells #[.slice none 0 0,.int .i64 0] 25 (0,0))):=⟨h2_⟩
      have vB:ah (DX.heap[jW]?=some (.cells #[.slice none 0 0,.int .i64 0] 25 (0,0))):=⟨h3_⟩
      have xK:ah (w.heap.size≤jW):=⟨h4_⟩
      have xL:ah (w0.heap.size≤jW):=⟨h5_⟩
      have Ho:ah (o5≠jW):=⟨h6_⟩
      have n7_:ah (jW≠o5):=⟨h7_⟩
      have n8_:ah (si≠jW):=⟨h8_⟩
      have n9_:ah (jW≠si):=⟨h9_⟩
      have apL:ah (Kept w DX (fun _=>False)):=⟨apJ⟩
      have apM:ah (Below w0.heap.size w0 DX):=⟨apK⟩
      clear HO_462000
      clear j3
      clear lC
      clear HK
      clear HB
      clear h0_ h1_ h2_ h3_ h4_ h5_ h6_ h7_ h8_ h9_ apJ apK
      have Dy:=tQ
      have j3:=tT
      have lC:=vz
      have vE:=vB
      have dX:=xK
      have Wi:=xL
      have kM:=Ho
      have oZ:=n7_
      have pq:=n8_
      have pz:=n9_
      have HK:=apL
      have HB:=apM
      clear tQ tT vz vB xK xL Ho n7_ n8_ n9_ apL apM
      have hHeld:DX.cell? ⟨o5,0,none⟩=some (.slice BR iL.length yV)∧DX.cell? ⟨o5,1,none⟩=some (.int .i64 jN)∧DX.cell? (qY.add ((fE).toNat*3))=some (.string ((aU l1 fE).f0))∧DX.cell? ⟨(qY.add ((fE).toNat*3)).block,(qY.add ((fE).toNat*3)).off+1,none⟩=some (.string ((aU l1 fE).f1))∧DX.cell? ⟨(qY.add ((fE).toNat*3)).block,(qY.add ((fE).toNat*3)).off+2,none⟩=some (.bool ((aU l1 fE).f2)):=hS_
      obtain⟨aEC,aED,apN⟩:=Kd.R_slice Dy.out
      (first|subst apN|(injection apN with Dq NG Dr;have NH:=Dq.symm;have NI:=Dr.symm;clear Dq NG Dr;subst NH;subst NI))
      refine Db (a':=?_) ?_ ?_
      rotate_left
      ·simp only[sM,Act.put,s1,s2,s3]
       rfl
      refine iN (i:=10) (N:=none) (bm 12 2047) rfl rfl (eG HT_.out (by kernel_rfl)) (by decide) (fun K hK=>?_)
      have aSH:DX.cell? ⟨jW,0,none⟩=some (.slice none 0 0):=(ak vE.out 0).trans rfl
      have aOA:=aj vE.out 0
      have azr:=kM.out
      have azs:=pq.out
      have azt:=oZ.out
      have azu:=pz.out
      have aSI:DX.cell? ⟨jW,1,none⟩=some (.int .i64 0):=(ak vE.out 1).trans rfl
      have aOB:=aj vE.out 1
      have azv:=kM.out
      have azw:=pq.out
      have azx:=oZ.out
      have azy:=pz.out
      refine oF (w1:=?_) (by rfl) rfl ?_ ?_
      rotate_left
      ·go_simp
       rfl
      refine hK.out _ _ ⟨((cell_far (p:=⟨jW,_,none⟩) kM.out _).trans (((cell_far (p:=⟨jW,_,none⟩) kM.out _).trans (hHeld.1)))),((cell_far (p:=⟨jW,_,none⟩) kM.out _).trans (((cell_far (p:=⟨jW,_,none⟩) kM.out _).trans (hHeld.2.1)))),(by first|(show World.cell? ?aEE _=_;obtain⟨_,e_,qZ,rf,rq⟩:=eT (HR1.out ?aEE (by repeat(first|exact HK.out|apply Kept.alloc|apply Kept.drewN|apply Kept.drew|refine Kept.setCell ?_ (.inr dX.out) _|refine Kept.setCell ?_ (.inr dX.out) _))) fE (of_eq_true lg) (of_eq_true lm);cases e_;exact qZ)|(obtain⟨_,e_,qZ,rf,rq⟩:=eT (HR1.out _ (by repeat(first|exact HK.out|apply Kept.alloc|apply Kept.drewN|apply Kept.drew|refine Kept.setCell ?_ (.inr dX.out) _|refine Kept.setCell ?_ (.inr dX.out) _))) fE (of_eq_true lg) (of_eq_true lm);cases e_;exact qZ)),(by first|(show World.cell? ?aEF _=_;obtain⟨_,e_,qZ,rf,rq⟩:=eT (HR1.out ?aEF (by repeat(first|exact HK.out|apply Kept.alloc|apply Kept.drewN|apply Kept.drew|refine Kept.setCell ?_ (.inr dX.out) _|refine Kept.setCell ?_ (.inr dX.out) _))) fE (of_eq_true lg) (of_eq_true lm);cases e_;exact rf)|(obtain⟨_,e_,qZ,rf,rq⟩:=eT (HR1.out _ (by repeat(first|exact HK.out|apply Kept.alloc|apply Kept.drewN|apply Kept.drew|refine Kept.setCell ?_ (.inr dX.out) _|refine Kept.setCell ?_ (.inr dX.out) _))) fE (of_eq_true lg) (of_eq_true lm);cases e_;exact rf)),(by first|(show World.cell? ?aEG _=_;obtain⟨_,e_,qZ,rf,rq⟩:=eT (HR1.out ?aEG (by repeat(first|exact HK.out|apply Kept.alloc|apply Kept.drewN|apply Kept.drew|refine Kept.setCell ?_ (.inr dX.out) _|refine Kept.setCell ?_ (.inr dX.out) _))) fE (of_eq_true lg) (of_eq_true lm);cases e_;exact rq)|(obtain⟨_,e_,qZ,rf,rq⟩:=eT (HR1.out _ (by repeat(first|exact HK.out|apply Kept.alloc|apply Kept.drewN|apply Kept.drew|refine Kept.setCell ?_ (.inr dX.out) _|refine Kept.setCell ?_ (.inr dX.out) _))) fE (of_eq_true lg) (of_eq_true lm);cases e_;exact rq))⟩ (fun hHeld=>?_)
      clear hK K
      refine pu 11 (some 9) (bm 12 4095) rfl rfl ?_
      refine lq (jC HT_.out (by kernel_rfl)) ?_
      have acB:=oZ.out
      have acC:=kM.out
      have aoj:=pz.out
      have aok:=pq.out
      obtain⟨U2,U3,U4,U5⟩:=c2 vE
      have adf:=J4.out
      have adg:=J5.out
      obtain⟨U6,U7,U8,U9⟩:=c2 j3
      try go_wp2
      go_roundg k1
      case measure=>have:=jd.out;omega
      case rel=>exact⟨(iW++PG),(wrap64 (fE+1)),(XW),(XY),(.slice aEC XW.length aED),zs,zs,H',⟨by have:=jd.out;omega⟩,⟨(Kd.R_mono (qj (Kd.R_types (Kd.R_types Dy.out vE.out (by decide)) j3.out (by decide))) (fun _ hk=>hk.1.1))⟩,⟨zp j3⟩,⟨zp lC⟩,⟨kz⟩,⟨zb HB⟩⟩
     ·rw[if_neg c9]at H
      exact absurd H (by simp)
    ·rw[if_neg c7]at H
     exact absurd H (by simp)
   ·skip
    have c6b0:=decide_eq_false c6
    clear c6
    simp only[Option.some.injEq,Prod.mk.injEq]at H
    obtain⟨rfl,rfl,rfl⟩:=H
    have aoY:=J4.out
    have aoZ:=J5.out
    obtain⟨a99,a9a,a9b,a9c⟩:=c2 j3
    obtain⟨aEH,aEI,aEJ⟩:=Kd.R_slice HO_462000.out
    subst aEJ
    obtain⟨Ku,Kv,Kw,Ky⟩:=c2 lC
    go_wp2
    refine bodyPost_ret (nG rfl _ _ si 25 #[.slice aEH iL.length aEI,.int .i64 jN] (0,0) _ rfl (zp lC) Tryz.underlying25 rfl (by kernel_rfl)) rfl ?_
    exact⟨_,ze,(Kd.R_mono (qj (Kd.R_types HO_462000.out lC.out (by decide))) (fun _ hk=>hk.1)),zb HB,kz⟩
def bL.j0:Nat→ByteArray→Int→Bool→Option (Int×Bool×Int×ByteArray×Int×Int)
 |0,_,_,_=>none
 |k+1,x0,x5,x20=>if x20=true then(some (0,false,0,(⟨#[]⟩:ByteArray),0,(-1)))else(if(x0.size:Int)<(wrap64 (4+x5))then(some (0,false,0,(⟨#[]⟩:ByteArray),0,0))else(if 1<(x0.size:Int)then(if 2<(x0.size:Int)then(if 3<(x0.size:Int)then(if 4≤(wrap64 (4+x5))then(if(wrap64 (4+x5))≤(x0.size:Int)then((di.f k (wrap64 (bt x0 1)) ((bt x0 2)==1) (wrap64 (bt x0 3)) (x0.extract 4 ((wrap64 (4+x5)):Int).toNat)).bind fun a9W=>(if a9W=true then(some (wrap64 (bt x0 1),((bt x0 2)==1),wrap64 (bt x0 3),x0.extract 4 ((wrap64 (4+x5)):Int).toNat,wrap64 (4+x5),1))else(some (0,false,0,(⟨#[]⟩:ByteArray),0,(-1)))))else(none))else(none))else(none))else(none))else(none)))
def bL.f(k:Nat)(a0:ByteArray):Option (Int×Bool×Int×ByteArray×Int×Int):=if(a0.size:Int)<4 then(some (0,false,0,(⟨#[]⟩:ByteArray),0,0))else(if 0<(a0.size:Int)then(if(wrap64 (bt a0 0))>200 then(bL.j0 k a0 (wrap64 (bt a0 0)) true)else(if 2<(a0.size:Int)then(bL.j0 k a0 (wrap64 (bt a0 0)) (decide ((bt a0 2)>1)))else(none)))else(none))
theorem bL.mono_l:∀k,(∀y0 y1 y2,gM (bL.j0 k y0 y1 y2) (bL.j0 (k+1) y0 y1 y2))
 |0=>fun _ _ _ r h=>by simp[bL.j0]at h
 |k+1=>by
  have mW:=bL.mono_l k
  ·intro y0 y1 y2
   unfold bL.j0
   have m0:=@di.mono
   exact zm
theorem bL.mono:∀a0 k,gM (bL.f k a0) (bL.f (k+1) a0):=by
 intro a0 k
 have mW:=bL.mono_l k
 unfold bL.f
 have m0:=@di.mono
 exact zm
def bL.T8:Bool×List (List Nat×List Nat):=(true,[([],[]),([0],[0]),([1],[1]),([],[]),([3],[3]),([4],[4]),([],[]),([6],[6]),([7],[7]),([],[]),([],[]),([10],[10]),([9,11],[9,11]),([2,5,8,12],[2,5,8,12]),([],[]),([14,13,0,1,2,3,4,5,6,7,8,9,10,11,12,13,14],[13,14])])
def bL.B8:List Nat:=[0,1,3,0,8,24,0,64,192,0,0,1024,3584,8191,0,32767]
theorem bL.tab8:jG .any (opsOf Tryz.f45 8)=bL.T8:=by kernel_rfl
theorem bL.bits8:fQ bL.T8.2 bL.B8=true:=by kernel_rfl
theorem bL.calls(k:Nat)(a0:ByteArray)(r1:Int)(r2:Bool)(r3:Int)(r4:ByteArray)(r5:Int)(r6:Int)(w:World)(h:bL.f k a0=some (r1,r2,r3,r4,r5,r6)):
 Calls Tryz.prog 45 #[.string a0] w fun e w'=>e= .returned (.tuple #[.agg #[.int .i64 r1,.bool r2,.int .i64 r3,.string r4],.int .i64 r5,.int .i64 r6])∧Below w.heap.size w w':=by
 have Xp:=Tryz.underlying42
 have HB:=ah.mk (Below.refl w.heap.size w)
 have H:(if(a0.size:Int)<4 then(some (0,false,0,(⟨#[]⟩:ByteArray),0,0))else(if 0<(a0.size:Int)then(if(wrap64 (bt a0 0))>200 then(bL.j0 k a0 (wrap64 (bt a0 0)) true)else(if 2<(a0.size:Int)then(bL.j0 k a0 (wrap64 (bt a0 0)) (decide ((bt a0 2)>1)))else(none)))else(none)))=some (r1,r2,r3,r4,r5,r6):=h
 clear h
 replace H:=sp H
 rcases H with⟨c2,H⟩|⟨c2,H⟩
 ·skip
  have c2b0:=decide_eq_true c2
  have c2b1:=decide_eq_true (by omega)
  clear c2
  simp only[Option.some.injEq,Prod.mk.injEq]at H
  obtain⟨rfl,rfl,rfl,rfl,rfl,rfl⟩:=H
  go_enter Tryz.func45,Tryz.ntmps45
  go_wp2_with (first|((with_reducible refine gd 2 rfl ?_);refine bx (N:=2) (cs:=#[.int .i64 0,.bool false,.int .i64 0,.string (⟨#[]⟩:ByteArray)]) (t:=42) ?_;intro yC hg w3 hbox hb;have mF:=ah.mk (hbox);have a1N:=gw HB hg;have apO:=a1N;replace HB:=ah.mk (ai (zb HB) hb);clear hb hbox hg;obtain⟨qK,qL,uL,vY,uM,qM,uN,vZ⟩:=c4 mF))
  refine bodyPost_ret (fA rfl _ _ yC 42 #[.int .i64 0,.bool false,.int .i64 0,.string (⟨#[]⟩:ByteArray)] (0,0) _ rfl (zp mF) Tryz.underlying42 rfl (by kernel_rfl)) rfl ?_
  exact⟨ze,zb HB⟩
 ·skip
  have c2b0:=decide_eq_false c2
  have c2b1:=decide_eq_false (by omega)
  clear c2
  replace H:=sp H
  rcases H with⟨c5,H⟩|⟨c5,H⟩
  ·skip
   have c5b0:=decide_eq_true c5
   have c5b1:=decide_eq_true (by omega)
   clear c5
   have Xv:=ah.mk H
   clear H
   go_enter Tryz.func45,Tryz.ntmps45
   go_upto_region 4 with(first|((with_reducible refine gd 2 rfl ?_);refine bx (N:=2) (cs:=#[.int .i64 0,.bool false,.int .i64 0,.string (⟨#[]⟩:ByteArray)]) (t:=42) ?_;intro yC hg w8 hbox hb;have mF:=ah.mk (hbox);have a1N:=gw HB hg;have apO:=a1N;replace HB:=ah.mk (ai (zb HB) hb);clear hb hbox hg;have p6:0≤(0:Int):=(by omega);have q6:0<a0.size:=(by have:(0:Int)<(a0.size:Int):=of_decide_eq_true za;omega);have hx6:∀h:0<a0.size,((a0[0]'h).toNat:Int)=bt a0 0:=fF a0 0;clear p6;have qi6:(0<(a0.size:Int))=True:=eq_true (of_decide_eq_true za);replace q6:=eq_true q6))
   (try simp only[Act.put,s1,s2,s3])
   go_cut [20] (fun v20 wc=>∃(kq:Nat)(Wj:Bool),v20= .bool Wj∧ah (bL.j0 kq a0 (wrap64 (bt a0 0)) Wj=some (r1,r2,r3,r4,r5,r6))∧ah (kq≤k)∧ah (wc.heap[yC]?=some (.cells #[.int .i64 0,.bool false,.int .i64 0,.string (⟨#[]⟩:ByteArray)] 42 (0,0)))∧ah (Below w.heap.size w wc))
   case first=>
    have H:=Xv.out
    clear Xv
    by_cases c9:(wrap64 (bt a0 0))>200
    ·rw[if_pos c9]at H
     have c9b0:=decide_eq_true c9
     clear c9
     (first|rw[c9b0]|rw[c9b1]|rw[c9b2]|(simp only[gI,iB];rw[c9b0])|skip)
     have H':=ah.mk H
     clear H
     go_wp2
     go_meet
     case rel=>exact⟨_,(true),zs,H',⟨by first|omega|exact Nat.le_refl _⟩,⟨by exact zk mF⟩,⟨zb HB⟩⟩
    ·rw[if_neg c9]at H
     have c9b0:=decide_eq_false c9
     clear c9
     (first|rw[c9b0]|rw[c9b1]|rw[c9b2]|(simp only[gI,iB];rw[c9b0])|skip)
     by_cases c10:2<(a0.size:Int)
     ·rw[if_pos c10]at H
      have c10b0:=decide_eq_true c10
      have c10b1:=decide_eq_true (by omega)
      clear c10
      have H':=ah.mk H
      clear H
      have p11:0≤(2:Int):=(by omega)
      have QB:2<a0.size:=(by have:(2:Int)<(a0.size:Int):=of_decide_eq_true za;omega)
      have a1r:∀h:2<a0.size,((a0[2]'h).toNat:Int)=bt a0 2:=fF a0 2
      clear p11
      have a1s:(2<(a0.size:Int))=True:=eq_true (of_decide_eq_true za)
      replace QB:=eq_true QB
      go_wp2
      go_meet
      case rel=>exact⟨_,(decide ((bt a0 2)>1)),zs,H',⟨by first|omega|exact Nat.le_refl _⟩,⟨by exact zk mF⟩,⟨zb HB⟩⟩
     ·rw[if_neg c10]at H
      exact absurd H (by simp)
   case rest=>
    clear Xv
    try clear c1
    try clear p1
    try clear q1
    try clear hx1
    try clear qi1
    try clear c2
    try clear c2b0
    try clear c2b1
    try clear p2
    try clear c4
    try clear c5
    try clear c5b0
    try clear c5b1
    try clear p6
    try clear q6
    try clear hx6
    try clear qi6
    try clear c9
    try clear c9b0
    try clear c9b1
    try clear c9b2
    try clear c10
    try clear c10b0
    try clear c10b1
    try clear p11
    try clear QB
    try clear a1r
    try clear a1s
    try clear qK
    try clear qL
    try clear uL
    try clear vY
    try clear uM
    try clear qM
    try clear uN
    try clear vZ
    try clear p11
    try clear p6
    try clear QB
    try clear q6
    obtain⟨kq,Wj,rfl,HA,HJ6,mF,HB⟩:=hcut
    cases kq with
    |zero=>exact absurd HA.out (by simp[bL.j0])
    |succ kj6=>
     have H:=HA.out
     clear HA
     simp only[bL.j0]at H
     by_cases c12:Wj=true
     ·subst c12
      rw[if_pos rfl]at H
      simp only[Option.some.injEq,Prod.mk.injEq]at H
      obtain⟨rfl,rfl,rfl,rfl,rfl,rfl⟩:=H
      obtain⟨KI,KJ,VE,azz,KL,KM,VF,azA⟩:=c4 mF
      go_wp2
      refine bodyPost_ret (fA rfl _ _ yC 42 #[.int .i64 0,.bool false,.int .i64 0,.string (⟨#[]⟩:ByteArray)] (0,0) _ rfl (zp mF) Tryz.underlying42 rfl (by kernel_rfl)) rfl ?_
      exact⟨ze,zb HB⟩
     ·replace c12:=Bool.eq_false_iff.mpr c12
      subst c12
      rw[if_neg (show ¬(false=true) by decide)]at H
      by_cases c14:(a0.size:Int)<(wrap64 (4+(wrap64 (bt a0 0))))
      ·rw[if_pos c14]at H
       have c14b0:=decide_eq_true c14
       clear c14
       simp only[Option.some.injEq,Prod.mk.injEq]at H
       obtain⟨rfl,rfl,rfl,rfl,rfl,rfl⟩:=H
       obtain⟨zM,zN,zO,UB,zP,zQ,zR,UC⟩:=c4 mF
       go_wp2
       refine bodyPost_ret (fA rfl _ _ yC 42 #[.int .i64 0,.bool false,.int .i64 0,.string (⟨#[]⟩:ByteArray)] (0,0) _ rfl (zp mF) Tryz.underlying42 rfl (by kernel_rfl)) rfl ?_
       exact⟨ze,zb HB⟩
      ·rw[if_neg c14]at H
       have c14b0:=decide_eq_false c14
       clear c14
       by_cases c16:1<(a0.size:Int)
       ·rw[if_pos c16]at H
        have c16b0:=decide_eq_true c16
        have c16b1:=decide_eq_true (by omega)
        clear c16
        by_cases c18:2<(a0.size:Int)
        ·rw[if_pos c18]at H
         have c18b0:=decide_eq_true c18
         have c18b1:=decide_eq_true (by omega)
         clear c18
         by_cases c20:3<(a0.size:Int)
         ·rw[if_pos c20]at H
          have c20b0:=decide_eq_true c20
          have c20b1:=decide_eq_true (by omega)
          clear c20
          by_cases Mt:4≤(wrap64 (4+(wrap64 (bt a0 0))))
          ·rw[if_pos Mt]at H
           have c22b0:=eq_true Mt
           have c22b1:=decide_eq_true Mt
           by_cases c23:(wrap64 (4+(wrap64 (bt a0 0))))≤(a0.size:Int)
           ·rw[if_pos c23]at H
            have c23b0:=eq_true c23
            have c23b1:=decide_eq_true c23
            obtain⟨a9W,A24,H⟩:=ob H
            (try dsimp only at H)
            have apP:=ah.mk H
            clear H
            try go_wp2
            replace mF:=ah.mk (dw mF.out)
            replace HB:=ah.mk (dF HB.out)
            have Qz:0≤(1:Int):=(by omega)
            have Oq:1<a0.size:=(by have:(1:Int)<(a0.size:Int):=of_decide_eq_true za;omega)
            have a1g:∀h:1<a0.size,((a0[1]'h).toNat:Int)=bt a0 1:=fF a0 1
            clear Qz
            have aSL:(1<(a0.size:Int))=True:=eq_true (of_decide_eq_true za)
            replace Oq:=eq_true Oq
            have p19:0≤(2:Int):=(by omega)
            have q19:2<a0.size:=(by have:(2:Int)<(a0.size:Int):=of_decide_eq_true za;omega)
            have aSN:∀h:2<a0.size,((a0[2]'h).toNat:Int)=bt a0 2:=fF a0 2
            clear p19
            have aSO:(2<(a0.size:Int))=True:=eq_true (of_decide_eq_true za)
            replace q19:=eq_true q19
            have p21:0≤(3:Int):=(by omega)
            have q21:3<a0.size:=(by have:(3:Int)<(a0.size:Int):=of_decide_eq_true za;omega)
            have aSQ:∀h:3<a0.size,((a0[3]'h).toNat:Int)=bt a0 3:=fF a0 3
            clear p21
            have aSR:(3<(a0.size:Int))=True:=eq_true (of_decide_eq_true za)
            replace q21:=eq_true q21
            refine uG (n:=16) (S:=fun w'=>True) (ds:=[]) #[false,false,false,false,false,false,false,false,false,false,false,false,false,false,false,false] (by kernel_rfl) rfl rfl trivial (fun hHeld=>?_);refine bK bL.tab8 bL.bits8 (fun HT_ HW_=>?_)
            generalize wc.drew=w26 at mF HB hHeld ⊢
            refine pu 0 (some 28) (bm 16 1) rfl rfl ?_
            refine pu 3 (some 31) (bm 16 9) rfl rfl ?_
            refine pu 6 (some 34) (bm 16 73) rfl rfl ?_
            refine pu 9 (some 37) (bm 16 585) rfl rfl ?_
            refine pu 10 (some 38) (bm 16 1609) rfl rfl ?_
            refine pu 11 (some 39) (bm 16 3657) rfl rfl ?_
            refine pu 12 (some 40) (bm 16 7753) rfl rfl ?_
            refine take_ (i:=1) (N:=some 29) (v:=?_) (a':=?_) #[true,true,false,true,false,false,true,false,false,true,true,true,true,false,false,false] rfl rfl (qI HT_.out HW_.out (by kernel_rfl)) (fun _ _ _ h=>h) (Or.inl ⟨by rfl,?_⟩) hHeld ?_ ?_
            rotate_left
            ·intro w' _
             go_simp
             with_reducible rfl
            rotate_left
            ·simp only[Act.put,s1,s2,s3,gI,iB]
             rfl
            refine pu 2 (some 30) (bm 16 7759) rfl rfl ?_
            refine take_ (i:=4) (N:=some 32) (v:=?_) (a':=?_) #[true,true,true,true,true,false,true,false,false,true,true,true,true,false,false,false] rfl rfl (qI HT_.out HW_.out (by kernel_rfl)) (fun _ _ _ h=>h) (Or.inl ⟨by rfl,?_⟩) hHeld ?_ ?_
            rotate_left
            ·intro w' _
             go_simp
             with_reducible rfl
            rotate_left
            ·simp only[Act.put,s1,s2,s3,gI,iB]
             rfl
            refine pu 5 (some 33) (bm 16 7807) rfl rfl ?_
            refine take_ (i:=7) (N:=some 35) (v:=?_) (a':=?_) #[true,true,true,true,true,true,true,true,false,true,true,true,true,false,false,false] rfl rfl (qI HT_.out HW_.out (by kernel_rfl)) (fun _ _ _ h=>h) (Or.inl ⟨by rfl,?_⟩) hHeld ?_ ?_
            rotate_left
            ·intro w' _
             go_simp
             with_reducible rfl
            rotate_left
            ·simp only[Act.put,s1,s2,s3,gI,iB]
             rfl
            refine pu 8 (some 36) (bm 16 8191) rfl rfl ?_
            refine pu 13 (some 41) (bm 16 16383) rfl rfl ?_
            refine iN (i:=14) (N:=some 6) (bm 16 32767) rfl rfl (eG HT_.out (by kernel_rfl)) (by decide) (fun K hK=>?_)
            refine zC ?hg (N:=6) ?hd (cs:=#[.int .i64 0,.bool false,.int .i64 0,.string (⟨#[]⟩:ByteArray)]) (t:=42) ?hr ?_;(case hd=>rfl);(case hg=>rfl);(case hr=>first|(go_simp;done)|(go_simp;rfl))
            intro wN hg w27 hbox hb
            have o8:=ah.mk (hbox)
            have aOE:=gw HB hg
            have aOF:=gw HB hg
            replace HB:=ah.mk (ai (zb HB) hb)
            have pE:=ah.mk ((by rw[hg];exact Nat.ne_of_lt (gJ (zk mF)):yC≠wN))
            have pF:=ah.mk ((by rw[hg];exact Nat.ne_of_gt (gJ (zk mF)):wN≠yC))
            replace mF:=kb mF hb
            clear hb hbox hg
            refine hK.out _ _ trivial (fun hHeld=>?_)
            clear hK K
            refine nm ?_
            refine iN (i:=15) (N:=none) (bm 16 65535) rfl rfl (eG HT_.out (by kernel_rfl)) (by decide) (fun K hK=>?_)
            have aDJ:w27.cell? ⟨wN,0,none⟩=some (.int .i64 0):=(ak o8.out 0).trans rfl
            have aol:=aj o8.out 0
            have a9y:=pE.out
            have a9z:=pF.out
            have agF:w27.cell? ⟨wN,1,none⟩=some (.bool false):=(ak o8.out 1).trans rfl
            have a1v:=aj o8.out 1
            have L6:=pE.out
            have L8:=pF.out
            have apG:w27.cell? ⟨wN,2,none⟩=some (.int .i64 0):=(ak o8.out 2).trans rfl
            have adC:=aj o8.out 2
            have VU:=pE.out
            have VW:=pF.out
            have aEK:w27.cell? ⟨wN,3,none⟩=some (.string (⟨#[]⟩:ByteArray)):=(ak o8.out 3).trans rfl
            have apQ:=aj o8.out 3
            have a9X:=pE.out
            have a9Y:=pF.out
            refine oF (w1:=?_) (by rfl) rfl ?_ ?_
            rotate_left
            ·go_simp
             rfl
            refine hK.out _ _ trivial (fun hHeld=>?_)
            clear hK K
            refine lq (jC HT_.out (by kernel_rfl)) ?_
            have acG:=pF.out
            have acH:=pE.out
            obtain⟨zG,zH,zI,K3,zJ,zK,zL,K4⟩:=c4 o8
            go_upto_if 44 with(first|((with_reducible refine gq 29 rfl ?_);refine gl (some 43) Tryz.func29 #[.agg #[.int .i64 (wrap64 (bt a0 1)),.bool ((bt a0 2)==1),.int .i64 (wrap64 (bt a0 3)),.string (a0.extract 4 ((wrap64 (4+(wrap64 (bt a0 0)))):Int).toNat)]] ?_;(with_reducible refine(di.calls kj6 (wrap64 (bt a0 1)) ((bt a0 2)==1) (wrap64 (bt a0 3)) (a0.extract 4 ((wrap64 (4+(wrap64 (bt a0 0)))):Int).toNat) a9W _ A24.out).mono ?_);rintro e Mw ⟨rfl,hb⟩;refine⟨_,rfl,?_⟩;replace mF:=ah.mk (dR (g:=yC) (o:=.cells #[.int .i64 0,.bool false,.int .i64 0,.string (⟨#[]⟩:ByteArray)] 42 (0,0)) (zp mF) hb);replace o8:=ah.mk (dR (g:=wN) (o:=.cells #[.int .i64 (wrap64 (bt a0 1)),.bool ((bt a0 2)==1),.int .i64 (wrap64 (bt a0 3)),.string (a0.extract 4 ((wrap64 (4+(wrap64 (bt a0 0)))):Int).toNat)] 42 (0,0)) (zp o8) hb);replace HB:=ah.mk (ai (zb HB) hb);(try clear hb)))
            (try simp only[Act.put,s1,s2,s3])
            have H:=apP.out
            clear apP
            by_cases Qy:a9W=true
            ·subst Qy
             rw[if_pos rfl]at H
             simp only[Option.some.injEq,Prod.mk.injEq]at H
             obtain⟨rfl,rfl,rfl,rfl,rfl,rfl⟩:=H
             have a1w:=pF.out
             have a1x:=pE.out
             have Ew:Mw.cell? ⟨wN,0,none⟩=some (.int .i64 (wrap64 (bt a0 1))):=(ak o8.out 0).trans rfl
             have Ey:Mw.cell? ⟨wN,1,none⟩=some (.bool ((bt a0 2)==1)):=(ak o8.out 1).trans rfl
             have K9:Mw.cell? ⟨wN,2,none⟩=some (.int .i64 (wrap64 (bt a0 3))):=(ak o8.out 2).trans rfl
             have Ka:Mw.cell? ⟨wN,3,none⟩=some (.string (a0.extract 4 ((wrap64 (4+(wrap64 (bt a0 0)))):Int).toNat)):=(ak o8.out 3).trans rfl
             have Ez:=aj o8.out 0
             have EA:=aj o8.out 1
             have Kb:=aj o8.out 2
             have Ke:=aj o8.out 3
             obtain⟨zT,zU,zV,Kz,zX,zY,zZ,KA⟩:=c4 mF
             go_wp2
             refine bodyPost_ret (fA rfl _ _ yC 42 #[.int .i64 (wrap64 (bt a0 1)),.bool ((bt a0 2)==1),.int .i64 (wrap64 (bt a0 3)),.string (a0.extract 4 ((wrap64 (4+(wrap64 (bt a0 0)))):Int).toNat)] (0,0) _ rfl (zp mF) Tryz.underlying42 rfl (by kernel_rfl)) rfl ?_
             exact⟨ze,zb HB⟩
            ·replace Qy:=Bool.eq_false_iff.mpr Qy
             subst Qy
             rw[if_neg (show ¬(false=true) by decide)]at H
             simp only[Option.some.injEq,Prod.mk.injEq]at H
             obtain⟨rfl,rfl,rfl,rfl,rfl,rfl⟩:=H
             have aOG:=pE.out
             have aOH:=pF.out
             obtain⟨azB,azC,azD,azE,azF,azG,azH,azI⟩:=c4 mF
             go_wp2
             refine bodyPost_ret (fA rfl _ _ yC 42 #[.int .i64 0,.bool false,.int .i64 0,.string (⟨#[]⟩:ByteArray)] (0,0) _ rfl (zp mF) Tryz.underlying42 rfl (by kernel_rfl)) rfl ?_
             exact⟨ze,zb HB⟩
           ·rw[if_neg c23]at H
            exact absurd H (by simp)
          ·rw[if_neg Mt]at H
           exact absurd H (by simp)
         ·rw[if_neg c20]at H
          exact absurd H (by simp)
        ·rw[if_neg c18]at H
         exact absurd H (by simp)
       ·rw[if_neg c16]at H
        exact absurd H (by simp)
  ·skip
   exact absurd H (by simp)
end Go.Proofs.YtokblgdgpnakpaaGreat.PFnEndLess
namespace Go.Proofs.YtokblgdgpnakpaaGreat.Pure
open Go.RowKit Go.Proofs.YtokblgdgpnakpaaGreat.PFnEndLess Go.Proofs.YtokblgdgpnakpaaGreatW.PrintWords Go.Proofs.YtokblgdgpnakpaaGreatW.PrintLast Go.Proofs.YtokblgdgpnakpaaGreatW.PrintMore Go.Proofs.YtokblgdgpnakpaaGreat.Lm
theorem kF(l:List Int)(p n:Int)(hl:Bytes l)(hll:l.length≤2000)(hp:0≤p)(hp1:p≤1000000000)(hn:1≤n):
 EvQ (fun k=>au.f k l p n) (fun r=>0≤r.1∧r.1<n∧r.2=p+1):=by
 have e1:wrap64 (p+1)=p+1:=dL _ (by omega) (by omega)
 have e2:wrap64 (p+1-1)=p:=by rw[show p+1-1=p by omega];exact dL _ (by omega) (by omega)
 unfold au.f
 simp only[e1]
 refine EvQ.neg (by omega) ?_
 refine EvQ.step (fun k=>by rw[au.j0]) ?_
 simp only[e2]
 by_cases h0:(l.length:Int)=0
 ·refine EvQ.pos (by simpa using h0) (EvQ.now ⟨by omega,by omega,rfl⟩)
 ·refine EvQ.neg (by simpa using h0) ?_
  by_cases h1:p<(l.length:Int)
  ·refine EvQ.pos h1 (EvQ.pos hp (EvQ.neg (by omega) (EvQ.now ?_)))
   have hb:=Fw hl p
   rw[dL (rd l p) hb.1 (by omega)]
   have:=nH (rd l p) n hb.1 (by omega)
   exact⟨this.1,this.2,rfl⟩
  ·have hlen:0<(l.length:Int):=by omega
   have hm1:=nH p (l.length:Int) hp hlen
   have e7:wrap64 (p*7)=p*7:=dL _ (by omega) (by omega)
   have e3:wrap64 (p*7+3)=p*7+3:=dL _ (by omega) (by omega)
   have hm2:=nH (p*7+3) (l.length:Int) (by omega) hlen
   refine EvQ.neg h1 (EvQ.neg h0 ?_)
   simp only[e7,e3]
   refine EvQ.pos hm1.1 (EvQ.pos hm1.2 (EvQ.pos hm2.1 (EvQ.pos hm2.2 (EvQ.neg (by omega) (EvQ.now ?_)))))
   have ha:=Fw hl (Int.tmod p (l.length:Int))
   have hb:=Fw hl (Int.tmod (p*7+3) (l.length:Int))
   have hd:=yI p (l.length:Int) hp hlen
   generalize rd l (Int.tmod p (l.length:Int))=a at*
   generalize rd l (Int.tmod (p*7+3) (l.length:Int))=b at*
   generalize Int.tdiv p (l.length:Int)=d at*
   rw[dL a ha.1 (by omega),dL b hb.1 (by omega),dL d hd.1 (by omega),dL (a*131) (by omega) (by omega),dL (b*1117) (by omega) (by omega),
    dL (p*29) (by omega) (by omega),dL (d*53) (by omega) (by omega),dL (a*131+b*1117) (by omega) (by omega),
    dL (a*131+b*1117+p*29) (by omega) (by omega),dL (a*131+b*1117+p*29+d*53) (by omega) (by omega)]
   have hx:0≤a*131+b*1117+p*29+d*53:=by omega
   have hx1:a*131+b*1117+p*29+d*53<2^62:=by omega
   generalize a*131+b*1117+p*29+d*53=x at*
   have hy:=yI x 64 hx (by omega)
   rw[dL (Int.tdiv x 64) hy.1 (by omega)]
   have:=nH _ n (Fx x (Int.tdiv x 64) hx hx1 hy.1 (by omega)) (by omega)
   exact⟨this.1,this.2,rfl⟩
theorem a9Z(l:List Int)(hl:Bytes l):
 EvQ (fun _=>pQ.f l) (fun r=>Bytes r.1∧r.1.length≤2000∧r.2=0):=by
 unfold pQ.f
 refine EvQ.ite (fun h=>EvQ.pos (by omega) (EvQ.now ⟨hl.take _,by simp;omega,rfl⟩)) (fun h=>EvQ.now ⟨hl,(by omega:l.length≤2000),rfl⟩)
theorem Lg:∀c:Fin 4,dG.f 10 (⟨#[101]⟩:ByteArray) (15+(c.val:Int))=some (strOfNums (List.replicate (15+c.val) 101)):=by decide+kernel
theorem a1O(c:Int)(h0:0≤c)(h1:c<4):Ev (fun k=>dG.f k (⟨#[101]⟩:ByteArray) (15+c)) (strOfNums (List.replicate (15+c.toNat) 101)):=by
 obtain⟨n,rfl⟩:=Int.eq_ofNat_of_zero_le h0
 exact Ev.of (fun k=>dG.mono _ _ k) (Lg ⟨n,by omega⟩)
theorem RS(l:List Int)(hl:Bytes l)(hll:l.length≤2000)(n:Nat):∀(s:ByteArray)(p:Int),s.size+n≤16→0≤p→p+3*n≤900000000→
 EvQ (fun k=>dx.l0 k s n l p) (fun r=>r.1.size≤18∧p≤r.2∧r.2≤p+3*n+2):=by
 induction n with
 |zero=>
  intro s p hs hp hp1
  refine EvQ.step (fun k=>by rw[dx.l0]) ?_
  refine EvQ.neg (by omega) (EvQ.bind (kF l p 24 hl hll hp (by omega) (by omega)) ?_)
  rintro⟨a,q⟩ ⟨ha,ha1,rfl⟩
  dsimp only at*
  refine EvQ.ite (fun h=>EvQ.pos (by omega) (EvQ.now ?_)) (fun h=>EvQ.ite (fun h1=>?_) (fun h1=>EvQ.now ?_))
  ·refine⟨?_,?_,?_⟩<;>dsimp only
   ·have:(s++(⟨#[65]⟩:ByteArray)).size=s.size+1:=by rw[aK];rfl
    omega
   ·omega
   ·omega
  ·refine EvQ.bind (kF l _ 4 hl hll (by omega) (by omega) (by omega)) ?_
   rintro⟨b,q⟩ ⟨hb,hb1,rfl⟩
   dsimp only at*
   rw[dL (15+b) (by omega) (by omega)]
   refine EvQ.bindE (a1O b hb hb1) (EvQ.now ?_)
   refine⟨?_,?_,?_⟩<;>dsimp only
   ·rw[gu,List.length_replicate];omega
   ·omega
   ·omega
  ·refine⟨?_,?_,?_⟩<;>(try dsimp only)<;>omega
 |succ n ih=>
  intro s p hs hp hp1
  refine EvQ.step (fun k=>by rw[dx.l0]) ?_
  have e1:wrap64 (((n+1:Nat):Int)-1)=(n:Int):=by rw[dL _ (by omega) (by omega)];omega
  simp only[e1]
  refine EvQ.pos (by omega) (EvQ.bind (kF l p 24 hl hll hp (by omega) (by omega)) ?_)
  rintro⟨a,q⟩ ⟨ha,ha1,rfl⟩
  refine EvQ.bind (kF l _ 4 hl hll (by dsimp only;omega) (by dsimp only;omega) (by omega)) ?_
  rintro⟨b,q⟩ ⟨hb,hb1,rfl⟩
  dsimp only at*
  have hsz:∀c:Int,(s++strOfNums [wrap64 (bt (⟨#[101,116,97,111,105,110,115,114,104,108,48,49,50,51,52,53,54,55,56,57,100,99,117,109,102,112,103,119,121,98,118,107,120,106,113,122,58,47,45]⟩:ByteArray) c)%256]).size=s.size+1:=fun c=>by
   rw[aK,gu];rfl
  refine EvQ.ite (fun h=>?_) (fun h=>?_)
  ·refine EvQ.bind (kF l _ 39 hl hll (by omega) (by omega) (by omega)) ?_
   rintro⟨c,q⟩ ⟨hc,hc1,rfl⟩
   dsimp only at*
   unfold bR.f
   simp only[Option.bind_some]
   refine EvQ.pos hc (EvQ.pos hc1 (EvQ.pos (by rw[gu];simp;omega) (EvQ.mono (ih _ _ (by rw[hsz];omega) (by omega) (by omega)) ?_)))
   rintro⟨s',q⟩ ⟨h1,h2,h3⟩
   dsimp only at*
   refine⟨h1,?_,?_⟩<;>omega
  ·unfold bR.f
   simp only[Option.bind_some]
   refine EvQ.pos ha (EvQ.pos (by omega) (EvQ.pos (by rw[gu];simp;omega) (EvQ.mono (ih _ _ (by rw[hsz];omega) (by omega) (by omega)) ?_)))
   rintro⟨s',q⟩ ⟨h1,h2,h3⟩
   dsimp only at*
   refine⟨h1,?_,?_⟩<;>omega
theorem RU(l:List Int)(p:Int)(hl:Bytes l)(hll:l.length≤2000)(hp:0≤p)(hp1:p≤800000000):
 EvQ (fun k=>dx.f k l p) (fun r=>r.1.size≤18∧p≤r.2∧r.2≤p+60):=by
 unfold dx.f
 refine EvQ.bind (kF l p 9 hl hll hp (by omega) (by omega)) ?_
 rintro⟨a,q⟩ ⟨ha,ha1,rfl⟩
 refine EvQ.bind (kF l _ 6 hl hll (by dsimp only;omega) (by dsimp only;omega) (by omega)) ?_
 rintro⟨b,q⟩ ⟨hb,hb1,rfl⟩
 dsimp only at*
 have hd:=yI b 5 hb (by omega)
 have hd2:Int.tdiv b 5≤1:=by rw[Int.tdiv_eq_ediv_of_nonneg hb];omega
 generalize Int.tdiv b 5=d at*
 rw[dL d (by omega) (by omega),dL (d*8) (by omega) (by omega),dL (a+d*8) (by omega) (by omega)]
 obtain⟨n,hn⟩:=Int.eq_ofNat_of_zero_le (show 0≤a+d*8 by omega)
 rw[hn]
 refine EvQ.mono (RS l hl hll n (⟨#[]⟩:ByteArray) (p+1+1) (by rw[lY];omega) (by omega) (by omega)) ?_
 rintro⟨s',q⟩ ⟨h1,h2,h3⟩
 dsimp only at*
 refine⟨h1,?_,?_⟩<;>(try dsimp only)<;>omega
theorem RY:∀c:Fin 256,dz.f 50 (c.val:Int)=some (place (c.val:Int)):=by decide+kernel
theorem J6(c:Int)(h0:0≤c)(h1:c<256):Ev (fun k=>dz.f k c) (place c):=by
 obtain⟨n,rfl⟩:=Int.eq_ofNat_of_zero_le h0
 exact Ev.of (fun k=>dz.mono _ k) (RY ⟨n,by omega⟩)
theorem Gp(a:ByteArray)(hs:a.size≤1000000000)(d:Nat):∀i:Nat,a.size-i=d→i≤a.size→
 Ev (fun k=>aZ.l0 k a i) (decide (a.size≤16∧∀j:Nat,j<a.size→i≤j→0≤place (bt a j))):=by
 induction d with
 |zero=>
  intro i hd hi
  have e:i=a.size:=by omega
  refine Ev.step (fun k=>by rw[aZ.l0]) ?_
  refine Ev.neg (by omega) ?_
  have:(decide (a.size≤16∧∀j:Nat,j<a.size→i≤j→0≤place (bt a j)))=decide ((a.size:Int)≤16):=by
   rw[decide_eq_decide]
   constructor
   ·rintro⟨h,_⟩;omega
   ·intro h;exact⟨by omega,fun j h1 h2=>by omega⟩
  rw[this]
  exact Ev.now _
 |succ d ih=>
  intro i hd hi
  have hb:=iG a i
  refine Ev.step (fun k=>by rw[aZ.l0]) ?_
  refine EvQ.ev (EvQ.pos (by omega) (EvQ.pos (by omega) (EvQ.bindE (J6 _ hb.1 hb.2) ?_)))
  refine EvQ.ite (fun h=>EvQ.now ?_) (fun h=>?_)
  ·symm
   rw[decide_eq_false_iff_not]
   rintro⟨_,h2⟩
   have:=h2 i (by omega) (by omega)
   omega
  ·rw[dL _ (by omega) (by omega),show((i:Int)+1)=((i+1:Nat):Int) by omega]
   refine EvQ.of_ev (ih (i+1) (by omega) (by omega)) ?_
   rw[decide_eq_decide]
   constructor
   ·rintro⟨h1,h2⟩
    refine⟨h1,fun j h3 h4=>?_⟩
    by_cases e:j=i
    ·subst e;omega
    ·exact h2 j h3 (by omega)
   ·rintro⟨h1,h2⟩
    exact⟨h1,fun j h3 h4=>h2 j h3 (by omega)⟩
theorem kN(a:ByteArray)(hs:a.size≤1000000000):Ev (fun k=>aZ.f k a) (jh a):=by
 unfold aZ.f
 have h:=Gp a hs a.size 0 (by omega) (by omega)
 have e:jh a=(decide (a.size≤16∧∀j:Nat,j<a.size→0≤j→0≤place (bt a j))):=by
  unfold jh
  rw[decide_eq_decide,yJ]
  simp
 rw[e]
 exact h
theorem a1P:∀c:Fin 32,bG.f 10 (c.val:Int) 5=some (lJ (c.val:Int) 5):=by decide+kernel
theorem a1Q:∀c:Fin 128,bG.f 10 (c.val:Int) 7=some (lJ (c.val:Int) 7):=by decide+kernel
theorem RZ(c:Int)(h0:0≤c)(h1:c<32):Ev (fun k=>bG.f k c 5) (lJ c 5):=by
 obtain⟨n,rfl⟩:=Int.eq_ofNat_of_zero_le h0
 exact Ev.of (fun k=>bG.mono _ _ k) (a1P ⟨n,by omega⟩)
theorem S9(c:Int)(h0:0≤c)(h1:c<128):Ev (fun k=>bG.f k c 7) (lJ c 7):=by
 obtain⟨n,rfl⟩:=Int.eq_ofNat_of_zero_le h0
 exact Ev.of (fun k=>bG.mono _ _ k) (a1Q ⟨n,by omega⟩)
theorem a1R(l:List Int)(h01:∀x∈l,x=0∨x=1)(hl:l.length≤8)(d:Nat):∀i:Nat,l.length-i=d→i≤l.length→
 Ev (fun k=>bT.l0 k l (kg (l.take i)) i) (kg l):=by
 induction d with
 |zero=>
  intro i hd hi
  have e:i=l.length:=by omega
  refine Ev.step (fun k=>by rw[bT.l0]) ?_
  refine Ev.neg (by omega) ?_
  rw[e,List.take_length]
  exact Ev.now _
 |succ d ih=>
  intro i hd hi
  have hr:=yH l h01 i (by omega)
  have hp:=a4h i (by omega)
  have h2:=abD l h01 i (by omega)
  have ht:=Ih l i (by omega)
  refine Ev.step (fun k=>by rw[bT.l0]) ?_
  refine EvQ.ev (EvQ.pos (by omega) (EvQ.pos (by omega) ?_))
  rw[dL _ (by omega) (by omega:(i:Int)+1<_),dL (2*_) (by omega) (by omega),dL _ (by omega) (by omega),←ht,show((i:Int)+1)=((i+1:Nat):Int) by omega]
  exact EvQ.of_ev (ih (i+1) (by omega) (by omega)) rfl
theorem Gq(l:List Int)(h01:∀x∈l,x=0∨x=1)(hl:l.length≤8):Ev (fun k=>bT.f k l) (kg l):=by
 unfold bT.f
 exact a1R l h01 hl l.length 0 (by omega) (by omega)
theorem XZ(l:List Int)(h01:∀x∈l,x=0∨x=1)(hl:l.length≤1000)(h8:l.length%8=0)(d:Nat):∀m:Nat,l.length/8-m=d→m≤l.length/8→
 Ev (fun k=>aD.l2 k l (strOfNums (kZ l m)) (8*(m:Int))) (strOfNums (kZ l (l.length/8))):=by
 induction d with
 |zero=>
  intro m hd hm
  have e:m=l.length/8:=by omega
  refine Ev.step (fun k=>by rw[aD.l2]) ?_
  refine Ev.neg (by omega) ?_
  rw[e]
  exact Ev.now _
 |succ d ih=>
  intro m hd hm
  have e8:wrap64 (8*(m:Int)+8)=8*(m:Int)+8:=dL _ (by omega) (by omega)
  have es:(l.take (8*(m:Int)+8).toNat).drop (8*(m:Int)).toNat=(l.drop (8*m)).take 8:=by
   rw[show(8*(m:Int)+8).toNat=8*m+8 by omega,show(8*(m:Int)).toNat=8*m by omega,List.drop_take]
   congr 1;omega
  have apR:∀x∈(l.drop (8*m)).take 8,x=0∨x=1:=fun x hx=>h01 x (List.mem_of_mem_drop (List.mem_of_mem_take hx))
  have hsl:((l.drop (8*m)).take 8).length=8:=by rw[List.length_take,List.length_drop];omega
  have hr:=yH _ apR 8 (by omega)
  rw[show((l.drop (8*m)).take 8).take 8=(l.drop (8*m)).take 8 by rw[List.take_take];rfl]at hr
  refine Ev.step (fun k=>by rw[aD.l2]) ?_
  simp only[e8,es]
  refine EvQ.ev (EvQ.pos (by omega) (EvQ.pos (by omega) (EvQ.pos (by omega) (EvQ.pos (by omega) (EvQ.bindE (Gq _ apR (by omega)) ?_)))))
  unfold bR.f
  simp only[Option.bind_some]
  rw[Int.emod_eq_of_lt hr.1 (by omega)]
  refine EvQ.pos (by rw[gu,gu,uJ];simp;omega) ?_
  rw[←Fz]
  have:=ih (m+1) (by omega) (by omega)
  rw[show 8*((m+1:Nat):Int)=8*(m:Int)+8 by omega]at this
  exact EvQ.of_ev this rfl
theorem Y0(d:Nat):∀(l:List Int),(∀x∈l,x=0∨x=1)→l.length+d≤900→(8-l.length%8)%8=d→
 Ev (fun k=>aD.l1 k l) (strOfNums (kZ (jm l) ((jm l).length/8))):=by
 induction d with
 |zero=>
  intro l h01 hl hd
  refine Ev.step (fun k=>by rw[aD.l1]) ?_
  rw[YN l (by omega)]
  refine Ev.neg (by omega) ?_
  exact XZ l h01 (by omega) (by omega) _ 0 rfl (by omega)
 |succ d ih=>
  intro l h01 hl hd
  refine Ev.step (fun k=>by rw[aD.l1]) ?_
  rw[←YM l (by omega)]
  refine Ev.pos (by omega) (Ev.pos (by omega) ?_)
  refine ih (l++[1]) ?_ (by simp;omega) (by simp;omega)
  intro x hx
  simp at hx
  rcases hx with hx|hx
  ·exact h01 x hx
  ·exact .inr hx
theorem Y1(a:ByteArray)(hp:lX a)(d:Nat):∀i:Nat,a.size-i=d→i≤a.size→
 Ev (fun k=>aD.l0 k a (jv a i) i) (oG a):=by
 have hsz:=hp.1
 induction d with
 |zero=>
  intro i hd hi
  have e:i=a.size:=by omega
  refine Ev.step (fun k=>by rw[aD.l0]) ?_
  refine Ev.neg (by omega) ?_
  rw[e]
  have hl:=uI a a.size
  exact Y0 _ _ (YO a _) (by omega) rfl
 |succ d ih=>
  intro i hd hi
  have hb:=iG a i
  have hpl:=hp.2 i (by omega)
  have hl:=uI a i
  have hih:=ih (i+1) (by omega) (by omega)
  rw[jv]at hih
  unfold nQ at hih
  refine Ev.step (fun k=>by rw[aD.l0]) ?_
  refine EvQ.ev (EvQ.pos (by omega) (EvQ.pos (by omega) (EvQ.bindE (J6 _ hb.1 hb.2) ?_)))
  rw[dL _ (by omega) (by omega:(i:Int)+1<_),show((i:Int)+1)=((i+1:Nat):Int) by omega]
  refine EvQ.ite (fun h=>?_) (fun h=>?_)
  ·rw[if_pos h]at hih
   refine EvQ.bindE (RZ _ hpl.1 (by omega)) ?_
   refine EvQ.pos (by rw[mK];omega) (EvQ.of_ev hih rfl)
  ·rw[if_neg h]at hih
   rw[dL (96+_) (by omega) (by omega),dL _ (by omega) (by omega)]
   refine EvQ.bindE (S9 _ (by omega) (by omega)) ?_
   refine EvQ.pos (by rw[mK];omega) (EvQ.of_ev hih rfl)
theorem Y2(a:ByteArray)(hp:lX a):Ev (fun k=>aD.f k a) (oG a):=by
 unfold aD.f
 exact Y1 a hp a.size 0 (by omega) (by omega)
theorem Lh:∀c:Fin 17,∀h:Fin 2,aX.f 20 (c.val:Int) 7 (h.val:Int)=some (strOfNums [128*(h.val:Int)+(c.val:Int)]):=by decide+kernel
theorem Dz(c h:Int)(h0:0≤c)(h1:c≤16)(h2:0≤h)(h3:h≤1):Ev (fun k=>aX.f k c 7 h) (strOfNums [128*h+c]):=by
 obtain⟨n,rfl⟩:=Int.eq_ofNat_of_zero_le h0
 obtain⟨m,rfl⟩:=Int.eq_ofNat_of_zero_le h2
 exact Ev.of (fun k=>aX.mono _ _ _ k) (Lh ⟨n,by omega⟩ ⟨m,by omega⟩)
theorem yY(a:ByteArray)(hp:lX a):Ev (fun k=>fe.f k a) (wrB a):=by
 have h14:=Dh hp
 have h16:=hp.1
 unfold fe.f
 refine EvQ.ev (EvQ.bindE (Y2 a hp) ?_)
 unfold wrB
 refine EvQ.ite (fun hlt=>?_) (fun hlt=>?_)
 ·refine EvQ.bindE (Dz _ 1 (by omega) (by omega) (by omega) (by omega)) (EvQ.pos (by rw[gu];simp;omega) (EvQ.now ?_))
  rw[if_pos (by omega)];rfl
 ·refine EvQ.bindE (Dz _ 0 (by omega) (by omega) (by omega) (by omega)) (EvQ.pos (by rw[gu];simp;omega) (EvQ.now ?_))
  rw[if_neg (by omega)]
  simp
def one(x:bf):Int:=(x.f0.size:Int)+(x.f1.size:Int)+4
def jF:List bf→Int
 |[]=>0
 |x::l=>one x+jF l
def fO(x:bf):Bool:=jh x.f0&&jh x.f1&&decide (x.f0.size≠0)
def jI(l:List bf):Bool:=l.all (fun x=>fO x&& !x.f2)
def eO(l:List bf)(m:Int):Bool:=decide (0≤m∧m≤64)&&jI l&&decide (jF l≤m)
def sS:List bf→Int→List bf
 |[],_=>[]
 |x::l,m=>if one x≤m then x::sS l (m-one x)else []
def iM(x:bf):Prop:=x.f0.size≤4000000∧x.f1.size≤4000000
def Small(l:List bf):Prop:=l.length≤4000000∧∀x∈l,iM x
theorem one_pos(x:bf):4≤one x:=by unfold one;omega
theorem Bg(l:List bf):0≤jF l:=by
 induction l with
 |nil=>exact Int.le_refl 0
 |cons x l ih=>unfold jF;have:=one_pos x;omega
theorem Y3(l:List bf):4*(l.length:Int)≤jF l:=by
 induction l with
 |nil=>simp[jF]
 |cons x l ih=>unfold jF;have:=one_pos x;simp only[List.length_cons];omega
theorem iM.one{x:bf}(h:iM x):one x≤8000004:=by unfold iM at h;unfold Pure.one;omega
theorem Small.head{x:bf}{l:List bf}(h:Small (x::l)):iM x:=h.2 x List.mem_cons_self
theorem Small.sub{l l':List bf}(h:Small l)(h1:l'.length≤l.length)(h2:∀x∈l',x∈l):Small l':=⟨by have:=h.1;omega,fun y hy=>h.2 y (h2 y hy)⟩
theorem Small.take{l:List bf}(h:Small l)(n:Nat):Small (l.take n):=h.sub (by simp;omega) (fun x hx=>List.mem_of_mem_take hx)
theorem Small.drop{l:List bf}(h:Small l)(n:Nat):Small (l.drop n):=h.sub (by simp) (fun x hx=>List.mem_of_mem_drop hx)
theorem Small.nil:Small []:=⟨by simp,fun x hx=>by cases hx⟩
theorem PI{l:List bf}(h:∀x∈l,iM x):jF l≤8000004*(l.length:Int):=by
 induction l with
 |nil=>simp[jF]
 |cons x l ih=>
  have h1:=(h x List.mem_cons_self).one
  have h2:=ih (fun y hy=>h y (List.mem_cons_of_mem _ hy))
  unfold jF
  simp only[List.length_cons]
  omega
theorem Small.size{l:List bf}(h:Small l):0≤jF l∧jF l≤32000016000000:=by
 have:=PI h.2
 have:=h.1
 exact⟨Bg l,by omega⟩
theorem ny{x:bf}(h:fO x=true):x.f0.size≤16∧x.f1.size≤16∧1≤x.f0.size∧lX x.f0∧lX x.f1:=by
 unfold fO at h
 simp only[Bool.and_eq_true,decide_eq_true_eq]at h
 have h1:=MO h.1.1
 have h2:=MO h.1.2
 exact⟨h1.1,h2.1,by omega,h1,h2⟩
theorem ru{x:bf}(h:fO x=true):iM x:=by have:=ny h;unfold iM;omega
theorem pU(l:List bf)(m:Int):eO l m=true↔0≤m∧m≤64∧jI l=true∧jF l≤m:=by
 unfold eO
 simp only[Bool.and_eq_true,decide_eq_true_eq]
 constructor
 ·rintro⟨⟨⟨h1,h2⟩,h3⟩,h4⟩;exact⟨h1,h2,h3,h4⟩
 ·rintro⟨h1,h2,h3,h4⟩;exact⟨⟨⟨h1,h2⟩,h3⟩,h4⟩
theorem Bh(l:List bf):jI l=true↔∀x∈l,fO x=true∧x.f2=false:=by
 unfold jI
 rw[List.all_eq_true]
 simp[Bool.and_eq_true]
theorem nA{l:List bf}{m:Int}(h:eO l m=true):Small l∧l.length≤16:=by
 obtain⟨h1,h2,h3,h4⟩:=(pU l m).1 h
 have h5:=Y3 l
 exact⟨⟨by omega,fun x hx=>ru ((Bh l).1 h3 x hx).1⟩,by omega⟩
theorem a1S(l:List bf):∀m:Int,jF l≤m→sS l m=l:=by
 induction l with
 |nil=>intro m _;rfl
 |cons x l ih=>
  intro m h
  unfold jF at h
  have:=Bg l
  unfold sS
  rw[if_pos (by omega),ih _ (by omega)]
theorem Y4(l:List bf):∀m:Int,0≤m→m<jF l→l≠[]∧sS l m=sS l.dropLast m:=by
 induction l with
 |nil=>intro m h0 h;simp[jF]at h;omega
 |cons x l ih=>
  intro m h0 h
  refine⟨by simp,?_⟩
  unfold jF at h
  cases l with
  |nil=>simp only[jF]at h;simp only[List.dropLast_singleton,sS];rw[if_neg (by omega)]
  |cons y l=>
   rw[List.dropLast_cons_cons]
   unfold sS
   by_cases hx:one x≤m
   ·rw[if_pos hx,if_pos hx,(ih (m-one x) (by omega) (by omega)).2]
   ·rw[if_neg hx,if_neg hx]
theorem Y5(l:List bf):∀m:Int,0≤m→jF (sS l m)≤m:=by
 induction l with
 |nil=>intro m h;simpa [sS,jF]using h
 |cons x l ih=>
  intro m h
  unfold sS
  by_cases hx:one x≤m
  ·rw[if_pos hx];unfold jF;have:=ih (m-one x) (by omega);omega
  ·rw[if_neg hx];simpa [jF]using h
theorem J7(l:List bf):∀m:Int,sS l m=l.take (sS l m).length:=by
 induction l with
 |nil=>intro m;rfl
 |cons x l ih=>
  intro m
  unfold sS
  by_cases hx:one x≤m
  ·rw[if_pos hx,List.length_cons,List.take_succ_cons,←ih]
  ·rw[if_neg hx];rfl
theorem a1T(l:List bf)(m:Int):(sS l m).length≤l.length:=by
 rw[J7 l m,List.length_take];omega
theorem PK{l:List bf}{m:Int}{x:bf}(h:x∈sS l m):x∈l:=by
 rw[J7 l m]at h
 exact List.mem_of_mem_take h
theorem aa0{l:List bf}{m:Int}(h0:0≤m)(h1:m≤64)(h:jI l=true):eO (sS l m) m=true:=by
 rw[pU]
 refine⟨h0,h1,?_,Y5 l m h0⟩
 rw[Bh]at h ⊢
 exact fun x hx=>h x (PK hx)
theorem uU(l:List bf)(i:Nat)(h:i<l.length):aU l (i:Int)=l[i]:=by
 unfold aU
 rw[Int.toNat_natCast,List.getD_eq_getElem?_getD,List.getElem?_eq_getElem h]
 rfl
theorem xV(l:List bf)(i:Nat)(h:i<l.length):l.drop i=aU l (i:Int)::l.drop (i+1):=by
 rw[uU l i h,List.drop_eq_getElem_cons h]
theorem a1U(x:bf)(h:iM x):oM.f x.f0 x.f1 x.f2=some (one x):=by
 unfold iM at h
 unfold oM.f one
 rw[dL ((x.f0.size:Int)+(x.f1.size:Int)) (by omega) (by omega),dL _ (by omega) (by omega)]
theorem Y6(l:List bf)(hl:Small l)(d:Nat):∀(i:Nat)(a:Int),l.length-i=d→i≤l.length→0≤a→a≤8000004*(i:Int)→
 Ev (fun k=>dA.l0 k l a i) (a+jF (l.drop i)):=by
 have hlen:=hl.1
 induction d with
 |zero=>
  intro i a hd hi ha ha1
  have e:i=l.length:=by omega
  subst e
  refine Ev.step (fun k=>by rw[dA.l0]) (Ev.neg (by omega) ?_)
  rw[List.drop_length]
  simp only[jF,Int.add_zero]
  exact Ev.now _
 |succ d ih=>
  intro i a hd hi ha ha1
  have hj:i<l.length:=by omega
  have hs:iM (aU l (i:Int)):=by rw[uU l i hj];exact hl.2 _ (List.getElem_mem hj)
  have h1:=hs.one
  have h2:=one_pos (aU l (i:Int))
  refine Ev.step (fun k=>by rw[dA.l0]) (EvQ.ev (EvQ.pos (by omega) (EvQ.pos (by omega) ?_)))
  rw[a1U _ hs]
  simp only[Option.bind_some]
  rw[dL _ (by omega) (by omega),dL _ (by omega) (by omega),show((i:Int)+1)=((i+1:Nat):Int) by omega,xV l i hj]
  refine EvQ.of_ev (ih (i+1) _ (by omega) (by omega) (by omega) (by omega)) ?_
  simp only[jF]
  omega
theorem Ci(l:List bf)(hl:Small l):Ev (fun k=>dA.f k l) (jF l):=by
 unfold dA.f
 have h:=Y6 l hl l.length 0 0 (by omega) (by omega) (by omega) (by omega)
 rw[List.drop_zero,Int.zero_add]at h
 exact h
theorem a1V(n:Nat):∀(l l2:List bf)(m:Int),l.length=n→Small l→0≤m→Ev (fun k=>dM.l0 k l l2 m) (sS l m,m):=by
 induction n with
 |zero=>
  intro l l2 m hn hl h0
  have e:l=[]:=List.eq_nil_of_length_eq_zero hn
  subst e
  refine Ev.step (fun k=>by rw[dM.l0]) (EvQ.ev (EvQ.bindE (Ci [] hl) (EvQ.neg (c:=jF []>m) (show ¬(0:Int)>m by omega) (EvQ.now (Q:=fun x=>x=(sS [] m,m)) rfl))))
 |succ n ih=>
  intro l l2 m hn hl h0
  have hlen:=hl.1
  refine Ev.step (fun k=>by rw[dM.l0]) (EvQ.ev (EvQ.bindE (Ci l hl) (EvQ.ite (fun h=>?_) (fun h=>EvQ.now ?_))))
  ·have e1:wrap64 ((l.length:Int)-1)=(n:Int):=by rw[w64 _ (by omega) (by omega)];omega
   simp only[e1]
   refine EvQ.pos (by omega) (EvQ.pos (by omega) ?_)
   obtain⟨h1,h2⟩:=Y4 l m h0 (by omega)
   rw[Int.toNat_natCast,h2,List.dropLast_eq_take,hn]
   exact EvQ.of_ev (ih _ l2 m (by simp;omega) (hl.take _) h0) rfl
  ·rw[a1S l m (by omega)]
theorem a1W(l:List bf)(m:Int)(hl:Small l)(h0:0≤m):Ev (fun k=>dM.f k l m) (sS l m,m):=by
 have:=hl.1
 unfold dM.f
 simp only[Option.bind_some]
 refine Ev.pos (by simp;omega) ?_
 rw[List.nil_append]
 exact a1V l.length l l m rfl hl h0
theorem uV(a b c:Int):cK.f a b c=some (decide (b≤a∧a≤c)):=by
 unfold cK.f
 by_cases h:a≥b
 ·rw[if_pos h];simp only[show b≤a from h,true_and]
 ·rw[if_neg h];simp only[show ¬b≤a from h,false_and,decide_false]
theorem qb(x:bf)(h:iM x):Ev (fun k=>eH.f k x.f0 x.f1 x.f2) (fO x):=by
 unfold iM at h
 unfold eH.f fO
 refine EvQ.ev (EvQ.bindE (kN x.f0 (by omega)) ?_)
 refine EvQ.ite (fun h1=>?_) (fun h1=>EvQ.now (by simp[h1]))
 have e:=qH x.f0
 refine EvQ.ite (fun h2=>EvQ.now ?_) (fun h2=>EvQ.bindE (kN x.f1 (by omega)) (EvQ.now ?_))
 ·rw[h2]at e
  have:x.f0.size=0:=by simpa using e
  simp[this]
 ·have:¬x.f0.size=0:=by
   intro h3
   rw[decide_eq_true h3]at e
   exact h2 (by simpa using e)
  rw[h1]
  simp[this]
theorem Eb(l:List bf)(m:Int)(hl:Small l)(d:Nat):∀i:Nat,l.length-i=d→i≤l.length→
 Ev (fun k=>bQ.l0 k i l m) (jI (l.drop i)&&decide (0≤m∧m≤64)&&decide (jF l≤m)):=by
 have hlen:=hl.1
 induction d with
 |zero=>
  intro i hd hi
  have e:i=l.length:=by omega
  subst e
  refine Ev.step (fun k=>by rw[bQ.l0]) (Ev.neg (by omega) ?_)
  rw[uV,List.drop_length]
  simp only[Option.bind_some]
  refine EvQ.ev (EvQ.ite (fun h1=>EvQ.bindE (Ci l hl) (EvQ.now ?_)) (fun h1=>EvQ.now ?_))
  ·rw[h1];rfl
  ·rw[decide_eq_false (fun h=>h1 (decide_eq_true h))];simp
 |succ d ih=>
  intro i hd hi
  have hj:i<l.length:=by omega
  have hs:iM (aU l (i:Int)):=by rw[uU l i hj];exact hl.2 _ (List.getElem_mem hj)
  refine Ev.step (fun k=>by rw[bQ.l0]) (EvQ.ev (EvQ.pos (by omega) (EvQ.pos (by omega) (EvQ.bindE (qb _ hs) ?_))))
  have e:jI (l.drop i)=((fO (aU l (i:Int))&& !(aU l (i:Int)).f2)&&jI (l.drop (i+1))):=by rw[xV l i hj];rfl
  rw[e]
  refine EvQ.ite (fun h1=>EvQ.ite (fun h2=>EvQ.now (by simp[h2])) (fun h2=>?_)) (fun h1=>EvQ.now (by simp[h1]))
  rw[dL _ (by omega) (by omega),show((i:Int)+1)=((i+1:Nat):Int) by omega]
  refine EvQ.of_ev (ih (i+1) (by omega) (by omega)) ?_
  have h3:(aU l (i:Int)).f2=false:=by simpa using h2
  rw[h1,h3];rfl
theorem Ec(l:List bf)(m:Int)(hl:Small l):Ev (fun k=>bQ.f k l m) (eO l m):=by
 unfold bQ.f
 have h:=Eb l m hl l.length 0 (by omega) (by omega)
 have e:eO l m=(jI (l.drop 0)&&decide (0≤m∧m≤64)&&decide (jF l≤m)):=by
  unfold eO
  rw[List.drop_zero,Bool.and_comm (decide (0≤m∧m≤64))]
 rw[e]
 exact h
theorem of_ev(m:List Int)(p:Int)(xs:List ByteArray)(hm:Bytes m)(hm1:m.length≤2000)(hp:0≤p)(hp1:p≤1000000000)(hx:1≤xs.length):
 EvQ (fun k=>bX.f k m p xs) (fun r=>r.1∈xs∧r.2=p+1):=by
 unfold bX.f
 refine EvQ.bind (kF m p (xs.length:Int) hm hm1 hp hp1 (by omega)) ?_
 rintro⟨c,q⟩ ⟨hc,hc1,rfl⟩
 dsimp only at*
 refine EvQ.pos hc (EvQ.pos hc1 (EvQ.now ⟨?_,rfl⟩))
 unfold MG
 rw[List.getD_eq_getElem?_getD,List.getElem?_eq_getElem (by omega:c.toNat<xs.length)]
 exact List.getElem_mem _
theorem Gr(m:List Int)(p:Int)(xs:List ByteArray)(hm:Bytes m)(hm1:m.length≤2000)(hp:0≤p)(hp1:p≤1000000000)(hx:1≤xs.length)(hs:∀x∈xs,x.size≤18):
 EvQ (fun k=>bX.f k m p xs) (fun r=>r.1.size≤18∧r.2=p+1):=(of_ev m p xs hm hm1 hp hp1 hx).mono fun r h=>⟨hs _ h.1,h.2⟩
theorem sj(m:List Int)(p:Int)(hm:Bytes m)(hm1:m.length≤2000)(hp:0≤p)(hp1:p≤700000000):
 EvQ (fun k=>eU.f k m p) (fun r=>r.1.size≤18∧r.2.1.size≤18∧p≤r.2.2.2∧r.2.2.2≤p+70):=by
 unfold eU.f
 refine EvQ.bind (Gr m p _ hm hm1 hp (by omega) (by simp) (by decide)) ?_
 rintro⟨a,q⟩ ⟨ha,rfl⟩
 dsimp only at*
 refine EvQ.bind (Gr m _ _ hm hm1 (by omega) (by omega) (by simp) (by decide)) ?_
 rintro⟨b,q⟩ ⟨hb,rfl⟩
 dsimp only at*
 refine EvQ.bind (kF m _ 8 hm hm1 (by omega) (by omega) (by omega)) ?_
 rintro⟨c,q⟩ ⟨hc,hc1,rfl⟩
 dsimp only at*
 refine EvQ.bind (kF m _ 24 hm hm1 (by omega) (by omega) (by omega)) ?_
 rintro⟨d,q⟩ ⟨hd,hd1,rfl⟩
 dsimp only at*
 refine EvQ.ite (fun h=>?_) (fun h=>EvQ.ite (fun h=>?_) (fun h=>EvQ.now ⟨ha,hb,by dsimp only;omega,by dsimp only;omega⟩))
 ·refine EvQ.bind (Gr m _ _ hm hm1 (by omega) (by omega) (by simp) (by decide)) ?_
  rintro⟨e,q⟩ ⟨he,rfl⟩
  exact EvQ.now ⟨he,hb,by dsimp only;omega,by dsimp only;omega⟩
 ·refine EvQ.bind (RU m _ hm hm1 (by omega) (by omega)) ?_
  rintro⟨e,q⟩ ⟨he,h1,h2⟩
  dsimp only at*
  exact EvQ.now ⟨ha,he,by dsimp only;omega,by dsimp only;omega⟩
theorem PL(l:List bf)(m:Int)(x:bf)(hl:Small (x::l))(h0:0≤m):Ev (fun k=>dV.f k l m x.f0 x.f1 x.f2) (sS ((⟨x.f0,x.f1,false⟩:bf)::l) m,m):=by
 have hs:Small ((⟨x.f0,x.f1,false⟩:bf)::l):=⟨hl.1,fun y hy=>by
  rcases List.mem_cons.1 hy with h|h
  ·subst h;exact hl.head
  ·exact hl.2 y (List.mem_cons_of_mem _ h)⟩
 have hlen:=hl.1
 simp only[List.length_cons]at hlen
 unfold dV.f
 simp only[Option.bind_some]
 refine Ev.pos (by simp only[List.length_singleton];omega) ?_
 exact EvQ.ev (EvQ.bindE (a1W _ m hs h0) (EvQ.now rfl))
def Gs(l:List bf):Prop:=∀x∈l,x.f0.size≤18∧x.f1.size≤18
theorem Gs.small{l:List bf}(h:Gs l)(hl:l.length≤4000000):Small l:=⟨hl,fun x hx=>by have:=h x hx;unfold iM;omega⟩
theorem PN(m:List Int)(hm:Bytes m)(hm1:m.length≤2000)(n:Nat):∀(p:Int)(l:List bf)(mx:Int),0≤p→p+100*n≤600000000→Gs l→l.length+n≤100→0≤mx→mx≤64→
 EvQ (fun k=>bD.l0 k n m p l mx) (fun r=>Gs r.1∧r.1.length≤103∧ -1≤r.2.1∧r.2.1≤65∧p≤r.2.2∧r.2.2≤p+100*n+300):=by
 induction n with
 |zero=>
  intro p l mx hp hp1 hd hl h0 h1
  refine EvQ.step (fun k=>by rw[bD.l0]) (EvQ.neg (by omega) (EvQ.bind (kF m p 24 hm hm1 hp (by omega) (by omega)) ?_))
  rintro⟨a,q⟩ ⟨ha,ha1,rfl⟩
  dsimp only at*
  refine EvQ.ite (fun h=>?_) (fun h=>EvQ.ite (fun h=>?_) (fun h=>EvQ.now ⟨hd,by dsimp only;omega,by dsimp only;omega,by dsimp only;omega,by dsimp only;omega,by dsimp only;omega⟩))
  ·simp only[Option.bind_some]
   refine EvQ.bind (kF m _ 3 hm hm1 (by omega) (by omega) (by omega)) ?_
   rintro⟨b,q⟩ ⟨hb,hb1,rfl⟩
   dsimp only at*
   refine EvQ.pos hb (EvQ.pos (by simpa using hb1) (EvQ.now ?_))
   have hr: -1≤rd ([(-1),65,3]:List Int) b∧rd ([(-1),65,3]:List Int) b≤65:=by
    obtain⟨c,rfl⟩:=Int.eq_ofNat_of_zero_le hb
    have hc:c=0∨c=1∨c=2:=by omega
    rcases hc with rfl|rfl|rfl<;>decide
   exact⟨hd,by dsimp only;omega,hr.1,hr.2,by dsimp only;omega,by dsimp only;omega⟩
  ·refine EvQ.bind (sj m _ hm hm1 (by omega) (by omega)) ?_
   rintro⟨a0,a1,a2,q0⟩ ⟨b0,b1,b2,b3⟩
   dsimp only at*
   refine EvQ.bind (sj m _ hm hm1 (by omega) (by omega)) ?_
   rintro⟨c0,c1,c2,q1⟩ ⟨d0,d1,d2,d3⟩
   dsimp only at*
   refine EvQ.bind (sj m _ hm hm1 (by omega) (by omega)) ?_
   rintro⟨e0,e1,e2,q2⟩ ⟨f0,f1,f2,f3⟩
   dsimp only at*
   simp only[Option.bind_some]
   refine EvQ.pos (by simp only[List.length_cons,List.length_nil];omega) (EvQ.now ⟨?_,?_,?_,?_,?_,?_⟩)
   ·intro x hx
    rcases List.mem_append.1 hx with h|h
    ·exact hd x h
    ·simp only[List.mem_cons,List.not_mem_nil,or_false]at h
     rcases h with rfl|rfl|rfl<;>exact⟨by assumption,by assumption⟩
   ·simp only[List.length_append,List.length_cons,List.length_nil];omega
   ·dsimp only;omega
   ·dsimp only;omega
   ·dsimp only;omega
   ·dsimp only;omega
 |succ n ih=>
  intro p l mx hp hp1 hd hl h0 h1
  have e1:wrap64 (((n+1:Nat):Int)-1)=(n:Int):=by rw[dL _ (by omega) (by omega)];omega
  refine EvQ.step (fun k=>by rw[bD.l0]) ?_
  simp only[e1]
  refine EvQ.pos (by omega) (EvQ.bind (sj m p hm hm1 hp (by omega)) ?_)
  rintro⟨a0,a1,a2,q0⟩ ⟨b0,b1,b2,b3⟩
  dsimp only at*
  have hs:iM (⟨a0,a1,a2⟩:bf):=by unfold iM;dsimp only;omega
  have hsl:Small ((⟨a0,a1,a2⟩:bf)::l):=⟨by simp only[List.length_cons];omega,fun y hy=>by
   rcases List.mem_cons.1 hy with h|h
   ·subst h;exact hs
   ·have:=hd y h;unfold iM;omega⟩
  refine EvQ.bindE (qb (⟨a0,a1,a2⟩:bf) hs) (EvQ.ite (fun h=>?_) (fun h=>?_))
  ·refine EvQ.bindE (PL l mx (⟨a0,a1,a2⟩:bf) hsl h0) ?_
   have hlen:=a1T ((⟨a0,a1,false⟩:bf)::l) mx
   simp only[List.length_cons]at hlen
   refine(ih q0 _ mx (by omega) (by omega) (fun x hx=>?_) (by dsimp only;omega) h0 h1).mono ?_
   ·rcases List.mem_cons.1 (PK hx)with h|h
    ·subst h;exact⟨b0,b1⟩
    ·exact hd x h
   ·rintro⟨r0,r1,r2⟩ ⟨g0,g1,g2,g3,g4,g5⟩
    dsimp only at*
    exact⟨g0,g1,g2,g3,by omega,by omega⟩
  ·refine(ih q0 l mx (by omega) (by omega) hd (by omega) h0 h1).mono ?_
   rintro⟨r0,r1,r2⟩ ⟨g0,g1,g2,g3,g4,g5⟩
   dsimp only at*
   exact⟨g0,g1,g2,g3,by omega,by omega⟩
theorem PO(m:List Int)(p:Int)(hm:Bytes m)(hm1:m.length≤2000)(hp:0≤p)(hp1:p≤500000000):
 EvQ (fun k=>bD.f k m p) (fun r=>Gs r.1∧r.1.length≤103∧ -1≤r.2.1∧r.2.1≤65∧p≤r.2.2∧r.2.2≤p+1000):=by
 unfold bD.f
 simp only[Option.bind_some]
 refine EvQ.bind (kF m p 5 hm hm1 hp (by omega) (by omega)) ?_
 rintro⟨a,q⟩ ⟨ha,ha1,rfl⟩
 dsimp only at*
 refine EvQ.pos ha (EvQ.pos (by simpa using ha1) (EvQ.bind (kF m _ 7 hm hm1 (by omega) (by omega) (by omega)) ?_))
 rintro⟨b,q⟩ ⟨hb,hb1,rfl⟩
 dsimp only at*
 have hr:0≤rd ([64,64,40,20,0]:List Int) a∧rd ([64,64,40,20,0]:List Int) a≤64:=by
  obtain⟨c,rfl⟩:=Int.eq_ofNat_of_zero_le ha
  have hc:c=0∨c=1∨c=2∨c=3∨c=4:=by omega
  rcases hc with rfl|rfl|rfl|rfl|rfl<;>decide
 obtain⟨n,rfl⟩:=Int.eq_ofNat_of_zero_le hb
 refine(PN m hm hm1 n (p+1+1) [] _ (by omega) (by omega) (fun x hx=>by cases hx) (by simp;omega) hr.1 hr.2).mono ?_
 rintro⟨r0,r1,r2⟩ ⟨g0,g1,g2,g3,g4,g5⟩
 dsimp only at*
 exact⟨g0,g1,g2,g3,by omega,by omega⟩
def lI:List bf:=[(⟨(⟨#[58,112,97,116,104]⟩:ByteArray),(⟨#[]⟩:ByteArray),false⟩:bf),(⟨(⟨#[58,115,116,97,116,117,115]⟩:ByteArray),(⟨#[48]⟩:ByteArray),false⟩:bf),(⟨(⟨#[58,115,116,97,116,117,115]⟩:ByteArray),(⟨#[49,50]⟩:ByteArray),false⟩:bf),(⟨(⟨#[107,105,110,100]⟩:ByteArray),(⟨#[116,101,120,116]⟩:ByteArray),false⟩:bf),(⟨(⟨#[115,105,122,101]⟩:ByteArray),(⟨#[]⟩:ByteArray),false⟩:bf),(⟨(⟨#[116,101]⟩:ByteArray),(⟨#[116,114,97,105,108,101,114,115]⟩:ByteArray),false⟩:bf)]
theorem nJ:lI.length=6:=rfl
def qh(a b:ByteArray)(x:bf):Bool:=x.f0.toList==a.toList&&x.f1.toList==b.toList
def J8(a:ByteArray)(x:bf):Bool:=x.f0.toList==a.toList
theorem Cj(a b:ByteArray)(x:bf):qh a b x=true↔x.f0=a∧x.f1=b:=by
 unfold qh
 simp only[Bool.and_eq_true,beq_iff_eq,toList_inj]
theorem J9(a:ByteArray)(x:bf):J8 a x=true↔x.f0=a:=by
 unfold J8
 simp only[beq_iff_eq,toList_inj]
def jb(q:bf→Bool):List bf→Int→Int
 |[],_=> -1
 |x::l,i=>if q x=true then i else jb q l (i+1)
theorem yD(q:bf→Bool)(l:List bf):∀i:Int,0≤i→ -1≤jb q l i∧jb q l i<i+l.length∧(0≤jb q l i→i≤jb q l i):=by
 induction l with
 |nil=>intro i hi;unfold jb;simp;omega
 |cons x l ih=>
  intro i hi
  unfold jb
  by_cases h:q x=true
  ·rw[if_pos h];simp only[List.length_cons];omega
  ·rw[if_neg h]
   obtain⟨h1,h2,h3⟩:=ih (i+1) (by omega)
   simp only[List.length_cons]
   refine⟨h1,by omega,fun h4=>?_⟩
   have:=h3 h4
   omega
def Bj(l:List bf)(a b:ByteArray):Int×Bool:=
 if 0≤jb (qh a b) (lI++l) 0 then(jb (qh a b) (lI++l) 0+1,true)else(jb (J8 a) (lI++l) 0+1,false)
def Li(c bits:Int):ByteArray:=if bits=4 then(if c<15 then strOfNums [16+c]else strOfNums [31,c-15])else if bits=6 then strOfNums [64+c]else strOfNums [128+c]
def jP(h:List bf):Bool:=h.all fO&&decide (h.length≤6)
theorem pG(h:List bf):jP h=true↔(∀x∈h,fO x=true)∧h.length≤6:=by
 unfold jP
 simp only[Bool.and_eq_true,decide_eq_true_eq,List.all_eq_true]
theorem Ck(c bits:Int):(Li c bits).size≤2∧1≤(Li c bits).size:=by
 unfold Li
 repeat' split
 all_goals rw[gu];simp
theorem PS(l:List bf)(a b:ByteArray):0≤(Bj l a b).1∧(Bj l a b).1≤6+(l.length:Int)∧((Bj l a b).2=true→1≤(Bj l a b).1):=by
 have r2:=yD (qh a b) (lI++l) 0 (by omega)
 have r1:=yD (J8 a) (lI++l) 0 (by omega)
 rw[List.length_append,nJ]at r1 r2
 unfold Bj
 split
 ·exact⟨by dsimp only;omega,by dsimp only;omega,fun _=>by dsimp only;omega⟩
 ·exact⟨by dsimp only;omega,by dsimp only;omega,fun h=>by cases h⟩
theorem a1X:∀c:Fin 24,aX.f 20 (c.val:Int) 4 1=some (Li (c.val:Int) 4):=by decide+kernel
theorem a1Y:∀c:Fin 24,aX.f 20 (c.val:Int) 6 1=some (Li (c.val:Int) 6):=by decide+kernel
theorem a1Z:∀c:Fin 24,aX.f 20 (c.val:Int) 7 1=some (Li (c.val:Int) 7):=by decide+kernel
theorem Sb(c bits:Int)(h0:0≤c)(h1:c≤23)(hb:bits=4∨bits=6∨bits=7):Ev (fun k=>aX.f k c bits 1) (Li c bits):=by
 obtain⟨n,rfl⟩:=Int.eq_ofNat_of_zero_le h0
 rcases hb with rfl|rfl|rfl
 ·exact Ev.of (fun k=>aX.mono _ _ _ k) (a1X ⟨n,by omega⟩)
 ·exact Ev.of (fun k=>aX.mono _ _ _ k) (a1Y ⟨n,by omega⟩)
 ·exact Ev.of (fun k=>aX.mono _ _ _ k) (a1Z ⟨n,by omega⟩)
theorem Gt(x:bf)(p bits:Int)(hx:fO x=true)(h0:0≤p)(h1:p≤23)(hb:bits=4∨bits=6∨bits=7):
 Ev (fun k=>dU.f k p bits 1 x.f0 x.f1 x.f2) (Li p bits++(if p=0 then wrB x.f0 else⟨#[]⟩)):=by
 obtain⟨_,_,_,p0,p1⟩:=ny hx
 have s0:=BH p0
 have s2:=Ck p bits
 unfold dU.f
 refine EvQ.ev (EvQ.ite (fun h=>?_) (fun h=>?_))
 ·rw[if_neg (by omega),ng]
  exact EvQ.bindE (Sb p bits h0 h1 hb) (EvQ.now rfl)
 ·have e:p=0:=by omega
  subst e
  rw[if_pos rfl]
  exact EvQ.bindE (Sb 0 bits h0 h1 hb) (EvQ.bindE (yY x.f0 p0) (EvQ.pos (by omega) (EvQ.now rfl)))
theorem Lj(q:bf→Bool)(x:bf)(l:List bf)(i:Int):jb q (x::l) i=if q x=true then i else jb q l (i+1):=rfl
theorem Y7(l:List bf)(a b:ByteArray)(c:Bool)(nm:Int)(hl:l.length≤5000000)(d:Nat):∀i:Nat,l.length-i=d→i≤l.length→
 Ev (fun k=>bI.l1 k l nm i a b c) (if 0≤jb (qh a b) (l.drop i) i then(jb (qh a b) (l.drop i) i+1,true)else(nm,false)):=by
 induction d with
 |zero=>
  intro i hd hi
  refine Ev.step (fun k=>by rw[bI.l1]) (EvQ.ev (EvQ.neg (by omega) (EvQ.now ?_)))
  rw[List.drop_eq_nil_of_le (by omega)]
  rfl
 |succ d ih=>
  intro i hd hi
  have hj:i<l.length:=by omega
  have ew:wrap64 ((i:Int)+1)=((i+1:Nat):Int):=by rw[dL _ (by omega) (by omega)];omega
  rw[xV l i hj]
  refine Ev.step (fun k=>by rw[bI.l1]) (EvQ.ev (EvQ.pos (by omega) (EvQ.pos (by omega) ?_)))
  simp only[ew]
  generalize aU l (i:Int)=x
  rw[Lj]
  have hgo:qh a b x=false→EvQ (fun k=>bI.l1 k l nm ((i+1:Nat):Int) a b c) (fun r=>r=if 0≤(if qh a b x=true then(i:Int)else jb (qh a b) (l.drop (i+1)) ((i:Int)+1))then((if qh a b x=true then(i:Int)else jb (qh a b) (l.drop (i+1)) ((i:Int)+1))+1,true)else(nm,false)):=by
   intro h
   simp only[h,Bool.false_eq_true,if_false]
   exact EvQ.of_ev (ih (i+1) (by omega) (by omega)) (by rw[show(((i+1:Nat):Int))=(i:Int)+1 by omega])
  refine EvQ.ite (fun h1=>EvQ.ite (fun h2=>EvQ.now ?_) (fun h2=>hgo ?_)) (fun h1=>hgo ?_)
  ·rw[toList_inj]at h1 h2
   rw[if_pos ((Cj a b x).2 ⟨h1,h2⟩),if_pos (by omega)]
   rw[show((i+1:Nat):Int)=(i:Int)+1 by omega]
  ·rw[toList_inj]at h1 h2
   cases hs:qh a b x with
   |false=>rfl
   |true=>exact absurd ((Cj a b x).1 hs).2 h2
  ·rw[toList_inj]at h1
   cases hs:qh a b x with
   |false=>rfl
   |true=>exact absurd ((Cj a b x).1 hs).1 h1
theorem Y8(l:List bf)(a b:ByteArray)(c:Bool)(hl:l.length≤5000000)(n:Nat):∀nm:Int,n≤l.length→nm=jb (J8 a) (l.drop n) n+1→
 Ev (fun k=>bI.l0 k l nm ((n:Int)-1) a b c) (if 0≤jb (qh a b) l 0 then(jb (qh a b) l 0+1,true)else(jb (J8 a) l 0+1,false)):=by
 induction n with
 |zero=>
  intro nm hn hnm
  refine Ev.step (fun k=>by rw[bI.l0]) (EvQ.ev (EvQ.neg (by omega) ?_))
  have h:=Y7 l a b c nm hl l.length 0 (by omega) (by omega)
  rw[List.drop_zero]at h hnm
  rw[hnm]at h ⊢
  exact EvQ.of_ev h rfl
 |succ n ih=>
  intro nm hn hnm
  have hj:n<l.length:=by omega
  have e1:((n+1:Nat):Int)-1=(n:Int):=by omega
  have e2:wrap64 ((n:Int)-1)=(n:Int)-1:=w64 _ (by omega) (by omega)
  have e3:wrap64 ((n:Int)+1)=(n:Int)+1:=w64 _ (by omega) (by omega)
  rw[e1]
  refine Ev.step (fun k=>by rw[bI.l0]) (EvQ.ev (EvQ.pos (by omega) (EvQ.pos (by omega) (EvQ.pos (by omega) ?_))))
  simp only[e2,e3]
  have hdr:=xV l n hj
  refine EvQ.ite (fun h1=>EvQ.of_ev (ih _ (by omega) ?_) rfl) (fun h1=>EvQ.of_ev (ih _ (by omega) ?_) rfl)
  ·rw[toList_inj]at h1
   rw[hdr]
   unfold jb
   rw[if_pos ((J9 a _).2 h1)]
  ·rw[toList_inj]at h1
   rw[hdr]
   unfold jb
   rw[if_neg (fun h=>h1 ((J9 a _).1 h)),hnm]
   rw[show((n+1:Nat):Int)=(n:Int)+1 by omega]
theorem Y9(l:List bf)(m:Int)(a b:ByteArray)(c:Bool)(hl:l.length≤4000000):Ev (fun k=>bI.f k l m a b c) (Bj l a b):=by
 have hall:ji.f l m=some (lI++l):=by
  unfold ji.f
  rw[show jT.f=some lI from rfl]
  simp only[Option.bind_some]
  rw[if_pos (by rw[nJ];omega)]
 unfold bI.f
 rw[hall]
 simp only[Option.bind_some]
 rw[w64 _ (by rw[List.length_append,nJ];omega) (by rw[List.length_append,nJ];omega)]
 exact Y8 (lI++l) a b c (by rw[List.length_append,nJ];omega) (lI++l).length 0 (Nat.le_refl _) (by rw[List.drop_length];rfl)
theorem Gu(h:List bf)(hh:h.length≤5000000)(hs:∀x∈h,iM x)(d:Nat):∀i:Nat,h.length-i=d→i≤h.length→Ev (fun k=>bg.l0 k h i) ((h.drop i).all fO&&decide (h.length≤6)):=by
 induction d with
 |zero=>
  intro i hd hi
  refine Ev.step (fun k=>by rw[bg.l0]) (EvQ.ev (EvQ.neg (by omega) (EvQ.now ?_)))
  rw[List.drop_eq_nil_of_le (by omega)]
  simp only[List.all_nil,Bool.true_and,decide_eq_decide]
  omega
 |succ d ih=>
  intro i hd hi
  have hj:i<h.length:=by omega
  have ew:wrap64 ((i:Int)+1)=((i+1:Nat):Int):=by rw[dL _ (by omega) (by omega)];omega
  rw[xV h i hj]
  have hmem:aU h (i:Int)∈h:=by rw[uU h i hj];exact List.getElem_mem hj
  refine Ev.step (fun k=>by rw[bg.l0]) (EvQ.ev (EvQ.pos (by omega) (EvQ.pos (by omega) ?_)))
  simp only[ew]
  generalize aU h (i:Int)=x at*
  refine EvQ.bindE (qb x (hs x hmem)) (EvQ.ite (fun h1=>?_) (fun h1=>EvQ.now (by simp[h1])))
  refine EvQ.of_ev (ih (i+1) (by omega) (by omega)) ?_
  rw[List.all_cons,h1,Bool.true_and]
theorem og(h:List bf)(hh:h.length≤5000000)(hs:∀x∈h,iM x):Ev (fun k=>bg.f k h) (jP h):=by
 unfold bg.f jP
 have h1:=Gu h hh hs h.length 0 (by omega) (by omega)
 rwa[List.drop_zero]at h1
theorem a2a:∀c:Fin 256,bG.f 10 (c.val:Int) 8=some (lJ (c.val:Int) 8):=by decide+kernel
theorem Sc(c:Int)(h0:0≤c)(h1:c<256):Ev (fun k=>bG.f k c 8) (lJ c 8):=by
 obtain⟨n,rfl⟩:=Int.eq_ofNat_of_zero_le h0
 exact Ev.of (fun k=>bG.mono _ _ k) (a2a ⟨n,by omega⟩)
theorem PU(x:Int)(l:List Int):strOfNums (x::l)=strOfNums [x]++strOfNums l:=Fz [x] l
def Ya(s:ByteArray)(r:List Int)(ones:Bool):ByteArray×Bool:=(s,ones&&(decide (r.length<8)&&decide (s.size≤16)))
theorem PV(r:List Int)(hr:r.length≤1000)(s:ByteArray)(d:Nat):∀(i:Nat)(ones:Bool),r.length-i=d→i≤r.length→
 Ev (fun k=>av.l2 k r s ones i) (Ya s r (ones&&(r.drop i).all (· ==1))):=by
 induction d with
 |zero=>
  intro i ones hd hi
  have e:i=r.length:=by omega
  refine Ev.step (fun k=>by rw[av.l2]) ?_
  refine Ev.neg (by omega) ?_
  rw[e,List.drop_length]
  unfold Ya
  cases ones with
  |true=>
   refine EvQ.ev (EvQ.pos rfl (EvQ.ite (fun h=>EvQ.now ?_) (fun h=>EvQ.now ?_)))
   ·rw[decide_eq_true (show r.length<8 by omega)];simp;omega
   ·rw[decide_eq_false (show ¬r.length<8 by omega)];simp
  |false=>exact EvQ.ev (EvQ.neg (by decide) (EvQ.now (by simp)))
 |succ d ih=>
  intro i ones hd hi
  refine Ev.step (fun k=>by rw[av.l2]) ?_
  have hi2:i<r.length:=by omega
  have e1:(r.drop i).all (· ==1)=(rd r i==1&&(r.drop (i+1)).all (· ==1)):=by
   rw[List.drop_eq_getElem_cons hi2,List.all_cons]
   have:rd r i=r[i]:=by simp[rd,List.getD_eq_getElem?_getD,List.getElem?_eq_getElem hi2]
   rw[this]
  rw[e1]
  have e2:wrap64 ((i:Int)+1)=((i+1:Nat):Int):=by rw[dL _ (by omega) (by omega)];omega
  simp only[e2]
  refine EvQ.ev (EvQ.pos (by omega) ?_)
  cases ones with
  |true=>
   refine EvQ.pos rfl (EvQ.pos (by omega) (EvQ.of_ev (ih (i+1) _ (by omega) (by omega)) ?_))
   simp
  |false=>
   refine EvQ.neg (by decide) (EvQ.of_ev (ih (i+1) _ (by omega) (by omega)) ?_)
   simp
theorem sw(r:List Int)(hr:r.length≤1000)(s:ByteArray):Ev (fun k=>av.j2 k r s) (Ya s r (r.all (· ==1))):=by
 refine Ev.step (fun k=>by rw[av.j2]) ?_
 have:=PV r hr s r.length 0 true (by omega) (by omega)
 rw[Bool.true_and,List.drop_zero]at this
 exact this
theorem adD(p:Int):bR.f (wrap64 (bt (⟨#[101,116,97,111,105,110,115,114,104,108,48,49,50,51,52,53,54,55,56,57,100,99,117,109,102,112,103,119,121,98,118,107,120,106,113,122,58,47,45]⟩:ByteArray) p))=some (strOfNums [l5 p]):=by
 have hb:=iG (⟨#[101,116,97,111,105,110,115,114,104,108,48,49,50,51,52,53,54,55,56,57,100,99,117,109,102,112,103,119,121,98,118,107,120,106,113,122,58,47,45]⟩:ByteArray) p
 unfold bR.f
 rw[dL _ hb.1 (by omega),Int.emod_eq_of_lt hb.1 hb.2]
 rfl
theorem PW(f:Nat):∀(R:List Int)(s:ByteArray),Bits R→R.length<5*f+5→s.size+R.length≤900→
 Ev (fun k=>av.l1 k R s) (Ya (s++strOfNums ((oK f R).1.map l5)) (oK f R).2 ((oK f R).2.all (· ==1))):=by
 induction f with
 |zero=>
  intro R s hb hl hs
  refine Ev.step (fun k=>by rw[av.l1]) (Ev.neg (by omega) ?_)
  have:=sw R (by omega) s
  rw[oK]
  simp only[List.map_nil,El,ng]
  exact this
 |succ f ih=>
  intro R s hb hl hs
  refine Ev.step (fun k=>by rw[av.l1]) ?_
  rw[oK]
  by_cases h5:R.length<5
  ·rw[if_pos h5]
   simp only[List.map_nil,El,ng]
   exact Ev.neg (by omega) (sw R (by omega) s)
  ·rw[if_neg h5]
   have hn5:=zD _ (hb.take 5)
   have hp5:=a4h (R.take 5).length (by rw[List.length_take];omega)
   refine EvQ.ev (EvQ.pos (by omega) (EvQ.pos (by omega) (EvQ.bindE (Gq _ (hb.take 5) (by rw[List.length_take];omega)) ?_)))
   by_cases h24:kg (R.take 5)<24
   ·rw[if_pos h24]
    refine EvQ.neg (by omega) (EvQ.neg (by omega) (EvQ.pos (by omega) (EvQ.pos (by omega) ?_)))
    rw[adD]
    simp only[Option.bind_some]
    refine EvQ.pos (by rw[gu];simp;omega) ?_
    have:=ih (R.drop 5) (s++strOfNums [l5 (kg (R.take 5))]) (hb.drop 5) (by rw[List.length_drop];omega) (by rw[aK,gu,List.length_drop];simp;omega)
    refine EvQ.of_ev this ?_
    try dsimp only
    rw[List.map_cons,PU _ (List.map l5 (oK f (R.drop 5)).1),ByteArray.append_assoc]
   ·rw[if_neg h24]
    refine EvQ.pos (by omega) ?_
    by_cases h7:R.length<7
    ·rw[if_pos h7]
     simp only[List.map_nil,El,ng]
     exact EvQ.pos (by omega) (EvQ.of_ev (sw R (by omega) s) rfl)
    ·rw[if_neg h7]
     have hn7:=akp R hb (by omega)
     have hr7:=zD _ (hb.take 7)
     have hp7:=a4h (R.take 7).length (by rw[List.length_take];omega)
     refine EvQ.neg (by omega) (EvQ.pos (by omega) (EvQ.bindE (Gq _ (hb.take 7) (by rw[List.length_take];omega)) ?_))
     have e7:wrap64 (wrap64 (kg (R.take 7)-96)+24)=kg (R.take 7)-72:=by
      rw[w64 (kg (R.take 7)-96) (by omega) (by omega),w64 _ (by omega) (by omega)];omega
     simp only[e7]
     by_cases h39:kg (R.take 7)-72≥39
     ·rw[if_pos h39]
      simp only[List.map_nil,El,ng]
      exact EvQ.pos h39 (EvQ.of_ev (sw R (by omega) s) rfl)
     ·rw[if_neg h39]
      refine EvQ.neg h39 (EvQ.pos (by omega) (EvQ.pos (by omega) ?_))
      rw[adD]
      simp only[Option.bind_some]
      refine EvQ.pos (by rw[gu];simp;omega) ?_
      have:=ih (R.drop 7) (s++strOfNums [l5 (kg (R.take 7)-72)]) (hb.drop 7) (by rw[List.length_drop];omega) (by rw[aK,gu,List.length_drop];simp;omega)
      refine EvQ.of_ev this ?_
      try dsimp only
      rw[List.map_cons,PU _ (List.map l5 (oK f (R.drop 7)).1),ByteArray.append_assoc]
theorem PX(b:ByteArray)(hs:b.size≤16)(d:Nat):∀i:Nat,b.size-i=d→i≤b.size→
 Ev (fun k=>av.l0 k b (ko b i) i) (Ya (Yt b) (oK 30 (ko b b.size)).2 ((oK 30 (ko b b.size)).2.all (· ==1))):=by
 induction d with
 |zero=>
  intro i hd hi
  have e:i=b.size:=by omega
  refine Ev.step (fun k=>by rw[av.l0]) (Ev.neg (by omega) ?_)
  rw[e]
  have:=PW 30 (ko b b.size) (⟨#[]⟩:ByteArray) (FH b _) (by rw[oL];omega) (by rw[oL,lY];omega)
  rw[Hw]at this
  exact this
 |succ d ih=>
  intro i hd hi
  have hb:=iG b i
  have e2:wrap64 ((i:Int)+1)=((i+1:Nat):Int):=by rw[dL _ (by omega) (by omega)];omega
  refine Ev.step (fun k=>by rw[av.l0]) ?_
  simp only[e2]
  rw[dL (bt b i) hb.1 (by omega)]
  refine EvQ.ev (EvQ.pos (by omega) (EvQ.pos (by omega) (EvQ.bindE (Sc _ hb.1 hb.2) (EvQ.pos (by rw[oL,mK];omega) (EvQ.of_ev (ih (i+1) (by omega) (by omega)) rfl)))))
theorem yZ(b:ByteArray):Ev (fun k=>fI.f k b) (unp b):=by
 unfold fI.f unp
 refine EvQ.ev (EvQ.ite (fun h=>EvQ.now (by rw[if_pos (by omega)])) (fun h=>?_))
 rw[if_neg (by omega)]
 unfold av.f
 refine EvQ.bindE (PX b (by omega) b.size 0 (by omega) (by omega)) ?_
 unfold Ya
 try dsimp only
 have hi:=aei b
 have hsz:(Yt b).size=(oK 30 (ko b b.size)).1.length:=by unfold Yt;rw[gu,List.length_map]
 have e:(((oK 30 (ko b b.size)).2.all (· ==1))&&(decide ((oK 30 (ko b b.size)).2.length<8)&&decide ((Yt b).size≤16)))=true↔(jh (Yt b)=true∧oG (Yt b)=b):=by
  rw[hi,hsz,Bool.and_eq_true,Bool.and_eq_true,decide_eq_true_iff,decide_eq_true_iff,List.all_eq_true]
  unfold JI
  simp
 refine EvQ.ite (fun h2=>EvQ.now ?_) (fun h2=>EvQ.now ?_)
 ·rw[if_pos (e.1 h2)]
 ·rw[if_neg (fun h3=>h2 (e.2 h3))]
theorem sD(b:ByteArray)(hs:b.size≤1000000000)(x8 x9:Int)(i:Nat)(h0:127≤x8)(h1:x8≤1000000000000)(h2:0≤x9)(h3:x9≤10000000)(hi:1≤i)(hi2:i≤4)
 (h:i≤3→∀y:Int,127≤y→y≤x8+1280000000→EvQ (fun k=>aI.l0 k b y (128*x9) ((i+1:Nat):Int)) (fun r=>r.2.2=true→r.1>16)):
 EvQ (fun k=>aI.l0 k b x8 x9 i) (fun r=>r.2.2=true→r.1>16):=by
 refine EvQ.step (fun k=>by rw[aI.l0]) (EvQ.ite (fun hlt=>?_) (fun _=>EvQ.step (fun k=>by rw[aI.j1]) (EvQ.neg (by decide) (EvQ.now (by simp)))))
 by_cases h9:i≤3
 ·have hc:=iG b i
  have ht:=nH (wrap64 (bt b i)) 128 (by rw[dL _ (by omega) (by omega)];omega) (by omega)
  have hm0:=Int.mul_nonneg h2 ht.1
  have hm1:x9*Int.tmod (wrap64 (bt b i)) 128≤10000000*128:=Int.mul_le_mul h3 (by omega) ht.1 (by omega)
  have e1:wrap64 (x8+wrap64 (x9*Int.tmod (wrap64 (bt b i)) 128))=x8+x9*Int.tmod (wrap64 (bt b i)) 128:=by
   rw[dL (x9*_) (by omega) (by omega),dL _ (by omega) (by omega)]
  have e2:wrap64 (128*x9)=128*x9:=dL _ (by omega) (by omega)
  have e3:wrap64 ((i:Int)+1)=((i+1:Nat):Int):=by rw[dL _ (by omega) (by omega)];omega
  rw[decide_eq_true (by omega)]
  refine EvQ.step (fun k=>by rw[aI.j1]) ?_
  simp only[e1,e2,e3]
  have hfin:EvQ (fun _=>some (x8+x9*Int.tmod (wrap64 (bt b i)) 128,((i+1:Nat):Int),true)) (fun r=>r.2.2=true→r.1>16):=EvQ.now (by intro _;dsimp only;omega)
  refine EvQ.pos (by trivial) (EvQ.pos (by omega) (EvQ.pos hlt (EvQ.ite (fun _=>EvQ.ite (fun _=>EvQ.ite (fun _=>EvQ.now (by simp)) (fun _=>EvQ.ite (fun _=>EvQ.now (by simp)) (fun _=>hfin))) (fun _=>EvQ.ite (fun _=>EvQ.now (by simp)) (fun _=>hfin))) (fun _=>?_))))
  exact h h9 _ (by omega) (by omega)
 ·rw[decide_eq_false (by omega)]
  exact EvQ.step (fun k=>by rw[aI.j1]) (EvQ.neg (by decide) (EvQ.now (by simp)))
theorem agR:Ev (fun k=>bZ.f k 7) 128:=Ev.of (fun k=>bZ.mono _ k) (show bZ.f 20 7=some 128 by decide+kernel)
theorem Yb:∀c:Fin 256,Int.tmod (wrap64 (c.val:Int)) (wrap64 ((wrap64 (128-1))+1))=(c.val:Int)%128:=by decide+kernel
theorem apS(c:Int)(h0:0≤c)(h1:c<256):Int.tmod (wrap64 c) (wrap64 ((wrap64 (128-1))+1))=c%128:=by
 obtain⟨n,rfl⟩:=Int.eq_ofNat_of_zero_le h0
 exact Yb ⟨n,by omega⟩
theorem Sd(b:ByteArray)(hs:b.size≤1000000000):EvQ (fun k=>aI.f k b 7) (a4k b):=by
 unfold aI.f
 refine EvQ.ite (fun h=>?_) (fun h=>?_)
 ·refine EvQ.now ⟨fun _=>rfl,fun h9=>?_⟩
  have:=(jR b).1 h
  omega
 ·have hb:0<b.size:=Nat.pos_of_ne_zero (fun h0=>h ((jR b).2 h0))
  have hc:=iG b 0
  refine EvQ.bindE agR (EvQ.pos (by omega) (EvQ.neg (by decide+kernel) ?_))
  rw[apS _ hc.1 hc.2,show wrap64 (128-1)=127 by decide+kernel]
  refine EvQ.ite (fun h1=>EvQ.now ⟨fun _=>by omega,fun _=>⟨fun _=>rfl,fun _=>by omega⟩⟩) (fun h1=>?_)
  have hq:EvQ (fun k=>aI.l0 k b (bt b 0%128) 1 ((1:Nat):Int)) (fun r=>r.2.2=true→r.1>16):=by
   refine sD b hs _ 1 1 (by omega) (by omega) (by omega) (by omega) (by omega) (by omega) (fun _ y hy hy1=>?_)
   refine sD b hs _ _ 2 (by omega) (by omega) (by omega) (by omega) (by omega) (by omega) (fun _ y hy hy1=>?_)
   refine sD b hs _ _ 3 (by omega) (by omega) (by omega) (by omega) (by omega) (by omega) (fun _ y hy hy1=>?_)
   exact sD b hs _ _ 4 (by omega) (by omega) (by omega) (by omega) (by omega) (by omega) (fun h9=>absurd h9 (by omega))
  refine hq.mono ?_
  intro r hr
  exact⟨fun _=>by omega,fun _=>⟨fun h9=>by omega,fun _=>hr⟩⟩
theorem Yc(b:ByteArray)(hs:b.size≤1000000000):Ev (fun k=>bM.f k b) (FJ b):=by
 refine EvQ.ev ?_
 unfold bM.f
 refine EvQ.bind (Sd b hs) ?_
 rintro⟨n,u,t⟩ hr
 have hc:=iG b 0
 have hout:FJ b=(⟨#[]⟩,0,false)→EvQ (fun k=>bM.j0 k b n u true) (fun x=>x=FJ b):=by
  intro h
  exact EvQ.step (fun k=>by rw[bM.j0]) (EvQ.pos rfl (EvQ.now h.symm))
 by_cases h0:b.size=0
 ·have:=hr.1 h0
  dsimp only at this ⊢
  rw[this]
  refine EvQ.neg (by decide) (hout ?_)
  unfold FJ;rw[if_pos h0]
 ·by_cases h1:bt b 0%128<127
  ·have:=(hr.2 (by omega)).1 h1
   simp only[Prod.mk.injEq]at this
   obtain⟨rfl,rfl,rfl⟩:=this
   dsimp only
   refine EvQ.pos rfl ?_
   by_cases h2:bt b 0%128>16
   ·refine EvQ.pos h2 (hout ?_)
    unfold FJ;rw[if_neg h0,if_pos (Or.inl h2)]
   ·refine EvQ.neg h2 ?_
    rw[dL (1+bt b 0%128) (by omega) (by omega)]
    by_cases h3:1+bt b 0%128>b.size
    ·rw[decide_eq_true h3]
     refine hout ?_
     unfold FJ;rw[if_neg h0,if_pos (Or.inr h3)]
    ·rw[decide_eq_false h3]
     have hbs:=Ii b (by omega)
     refine EvQ.step (fun k=>by rw[bM.j0]) ?_
     simp only[dL (1+bt b 0%128) (by omega) (by omega)]
     refine EvQ.neg (by decide) (EvQ.pos (by omega) (EvQ.pos (by omega) (EvQ.pos (by omega) (EvQ.pos (by omega) ?_))))
     have hbd:b.extract (1:Int).toNat (1+bt b 0%128).toNat=body b:=rfl
     rw[hbd]
     unfold FJ
     rw[if_neg h0,if_neg (by omega)]
     refine EvQ.ite (fun h4=>?_) (fun h4=>?_)
     ·rw[if_pos h4]
      refine EvQ.bindE (yZ _) (EvQ.ite (fun h5=>EvQ.now ?_) (fun h5=>EvQ.now ?_))
      ·rw[if_pos h5]
      ·rw[if_neg h5]
     ·rw[if_neg h4]
      refine EvQ.bindE (kN _ (by omega)) (EvQ.ite (fun h5=>EvQ.now ?_) (fun h5=>EvQ.now ?_))
      ·rw[if_pos h5]
      ·rw[if_neg h5]
  ·have h2:bt b 0%128=127:=by omega
   have h3:=(hr.2 (by omega)).2 h2
   dsimp only at h3 ⊢
   have hx:FJ b=(⟨#[]⟩,0,false):=by unfold FJ;rw[if_neg h0,if_pos (Or.inl (by omega))]
   exact EvQ.ite (fun h4=>EvQ.pos (h3 h4) (hout hx)) (fun _=>hout hx)
theorem aa1{l:List bf}{m:Int}{x:bf}(hl:eO l m=true)(hx:fO x=true):eO (sS ((⟨x.f0,x.f1,false⟩:bf)::l) m) m=true:=by
 obtain⟨h0,h1,h2,_⟩:=(pU l m).1 hl
 refine aa0 h0 h1 ?_
 unfold jI at h2 ⊢
 rw[List.all_cons,h2,Bool.and_true,Bool.and_eq_true]
 exact⟨hx,rfl⟩
theorem adE(l:List bf)(m:Int)(x:bf)(hl:eO l m=true)(hx:fO x=true):EvQ (fun k=>dV.f k l m x.f0 x.f1 x.f2) (fun r=>eO r.1 m=true∧r.2=m):=by
 have hs:=(nA hl)
 refine EvQ.of_ev (PL l m x ⟨by simp only[List.length_cons];omega,fun y hy=>?_⟩ ((pU l m).1 hl).1) ⟨aa1 hl hx,rfl⟩
 rcases List.mem_cons.1 hy with rfl|hy
 ·exact ru hx
 ·exact hs.1.2 y hy
theorem Ja(x:bf)(p b:Int)(hx:fO x=true):(Li p b++(if p=0 then wrB x.f0 else⟨#[]⟩)).size≤19:=by
 obtain⟨_,_,_,p0,_⟩:=ny hx
 have s0:=BH p0
 have s4:=Ck p b
 rw[aK]
 split
 ·omega
 ·rw[lY];omega
theorem Sg(l:List bf)(m:Int)(x:bf)(hl:eO l m=true)(hx:fO x=true):EvQ (fun k=>cB.f k l m x.f0 x.f1 x.f2) (fun r=>eO r.1 m=true∧r.2.1=m∧r.2.2.size≤36):=by
 have hsm:=nA hl
 have hr:=PS l x.f0 x.f1
 obtain⟨_,_,_,p0,p1⟩:=ny hx
 have s1:=BH p1
 have h4:=Ja x (Bj l x.f0 x.f1).1 4 hx
 have h6:=Ja x (Bj l x.f0 x.f1).1 6 hx
 have h7:=Ck (Bj l x.f0 x.f1).1 7
 unfold cB.f
 refine EvQ.bindE (Y9 l m _ _ _ hsm.1.1) (EvQ.ite (fun h2=>?_) (fun h2=>EvQ.ite (fun h3=>?_) (fun h3=>?_)))
 ·exact EvQ.bindE (Gt x _ 4 hx hr.1 (by omega) (.inl rfl)) (EvQ.bindE (yY x.f1 p1) (EvQ.pos (by omega) (EvQ.now ⟨hl,rfl,by dsimp only;rw[aK];omega⟩)))
 ·exact EvQ.bindE (Sb _ 7 hr.1 (by omega) (.inr (.inr rfl))) (EvQ.now ⟨hl,rfl,by dsimp only;omega⟩)
 ·refine EvQ.bind (adE l m x hl hx) ?_
  rintro⟨r,q⟩ ⟨hr1,rfl⟩
  exact EvQ.bindE (Gt x _ 6 hx hr.1 (by omega) (.inr (.inl rfl))) (EvQ.bindE (yY x.f1 p1) (EvQ.pos (by omega) (EvQ.now ⟨hr1,rfl,by dsimp only;rw[aK];omega⟩)))
theorem Si(h:List bf)(m:Int)(hh:h.length≤6)(hx:∀x∈h,fO x=true)(d:Nat):∀(i:Nat)(out:ByteArray)(l:List bf),h.length-i=d→i≤h.length→eO l m=true→out.size≤36*i→
 EvQ (fun k=>dB.l0 k h out i l m) (fun r=>eO r.1 m=true∧r.2.1=m∧r.2.2.size≤220):=by
 induction d with
 |zero=>
  intro i out l hd hi hl ho
  exact EvQ.step (fun k=>by rw[dB.l0]) (EvQ.neg (by omega) (EvQ.now ⟨hl,rfl,by dsimp only;omega⟩))
 |succ d ih=>
  intro i out l hd hi hl ho
  have hj:i<h.length:=by omega
  have ew:wrap64 ((i:Int)+1)=((i+1:Nat):Int):=by rw[dL _ (by omega) (by omega)];omega
  have hmem:aU h (i:Int)∈h:=by rw[uU h i hj];exact List.getElem_mem hj
  refine EvQ.step (fun k=>by rw[dB.l0]) (EvQ.pos (by omega) (EvQ.pos (by omega) ?_))
  simp only[ew]
  generalize aU h (i:Int)=x at*
  refine EvQ.bind (Sg l m x hl (hx x hmem)) ?_
  rintro⟨r,q,s⟩ ⟨hr1,rfl,hs⟩
  dsimp only at*
  exact EvQ.pos (by omega) (ih (i+1) (out++s) r (by omega) (by omega) hr1 (by rw[aK];omega))
theorem a2b(h l:List bf)(m:Int)(hh:jP h=true)(hl:eO l m=true):EvQ (fun k=>dB.f k l m h) (fun r=>eO r.1 m=true∧r.2.1=m∧r.2.2.size≤220):=by
 obtain⟨h1,h2⟩:=(pG h).1 hh
 exact Si h m h2 h1 h.length 0 (⟨#[]⟩:ByteArray) l (by omega) (by omega) hl (by rw[lY];omega)
def Sj(b:ByteArray)(r:Int×Int×Bool):Prop:=r.2.2=true→0≤r.1∧1≤r.2.1∧r.2.1≤b.size
theorem qw(b:ByteArray)(hs:b.size≤1000000000)(x8 x9:Int)(i:Nat)(h0:0≤x8)(h1:x8≤1000000000000)(h2:0≤x9)(h3:x9≤10000000)(hi:1≤i)(hi2:i≤4)
 (h:i≤3→∀y:Int,0≤y→y≤x8+1280000000→EvQ (fun k=>aI.l0 k b y (128*x9) ((i+1:Nat):Int)) (Sj b)):
 EvQ (fun k=>aI.l0 k b x8 x9 i) (Sj b):=by
 have hno:Sj b (0,0,false):=fun h=>by cases h
 refine EvQ.step (fun k=>by rw[aI.l0]) (EvQ.ite (fun hlt=>?_) (fun _=>EvQ.step (fun k=>by rw[aI.j1]) (EvQ.neg (by decide) (EvQ.now hno))))
 by_cases h9:i≤3
 ·have hc:=iG b i
  have ht:=nH (wrap64 (bt b i)) 128 (by rw[dL _ (by omega) (by omega)];omega) (by omega)
  have hm0:=Int.mul_nonneg h2 ht.1
  have hm1:x9*Int.tmod (wrap64 (bt b i)) 128≤10000000*128:=Int.mul_le_mul h3 (by omega) ht.1 (by omega)
  have e1:wrap64 (x8+wrap64 (x9*Int.tmod (wrap64 (bt b i)) 128))=x8+x9*Int.tmod (wrap64 (bt b i)) 128:=by
   rw[dL (x9*_) (by omega) (by omega),dL _ (by omega) (by omega)]
  have e2:wrap64 (128*x9)=128*x9:=dL _ (by omega) (by omega)
  have e3:wrap64 ((i:Int)+1)=((i+1:Nat):Int):=by rw[dL _ (by omega) (by omega)];omega
  rw[decide_eq_true (by omega)]
  refine EvQ.step (fun k=>by rw[aI.j1]) ?_
  simp only[e1,e2,e3]
  have hfin:EvQ (fun _=>some (x8+x9*Int.tmod (wrap64 (bt b i)) 128,((i+1:Nat):Int),true)) (Sj b):=EvQ.now (fun _=>⟨by dsimp only;omega,by dsimp only;omega,by dsimp only;omega⟩)
  refine EvQ.pos (by trivial) (EvQ.pos (by omega) (EvQ.pos hlt (EvQ.ite (fun _=>EvQ.ite (fun _=>EvQ.ite (fun _=>EvQ.now hno) (fun _=>EvQ.ite (fun _=>EvQ.now hno) (fun _=>hfin))) (fun _=>EvQ.ite (fun _=>EvQ.now hno) (fun _=>hfin))) (fun _=>?_))))
  exact h h9 _ (by omega) (by omega)
 ·rw[decide_eq_false (by omega)]
  exact EvQ.step (fun k=>by rw[aI.j1]) (EvQ.neg (by decide) (EvQ.now hno))
theorem aa2(bits:Int)(hb:bits=4∨bits=6∨bits=7):EvQ (fun k=>bZ.f k bits) (fun t=>t=16∨t=64∨t=128):=by
 rcases hb with rfl|rfl|rfl
 ·exact EvQ.of_ev (Ev.of (fun k=>bZ.mono _ k) (show bZ.f 20 4=some 16 by decide+kernel)) (.inl rfl)
 ·exact EvQ.of_ev (Ev.of (fun k=>bZ.mono _ k) (show bZ.f 20 6=some 64 by decide+kernel)) (.inr (.inl rfl))
 ·exact EvQ.of_ev (Ev.of (fun k=>bZ.mono _ k) (show bZ.f 20 7=some 128 by decide+kernel)) (.inr (.inr rfl))
theorem PY(b:ByteArray)(hs:b.size≤1000000000)(bits:Int)(hb:bits=4∨bits=6∨bits=7):EvQ (fun k=>aI.f k b bits) (Sj b):=by
 unfold aI.f
 refine EvQ.ite (fun h=>EvQ.now (fun h=>by cases h)) (fun h=>?_)
 have hb0:0<b.size:=Nat.pos_of_ne_zero (fun h0=>h ((jR b).2 h0))
 have hc:=iG b 0
 refine EvQ.bind (aa2 bits hb) ?_
 intro t ht
 have e1:wrap64 (t-1)=t-1:=dL _ (by omega) (by omega)
 have e2:wrap64 (t-1+1)=t:=by rw[dL _ (by omega) (by omega)];omega
 simp only[e1,e2]
 have hm:=nH (wrap64 (bt b 0)) t (by rw[dL _ (by omega) (by omega)];omega) (by omega)
 refine EvQ.pos (by omega) (EvQ.neg (by omega) (EvQ.ite (fun h1=>EvQ.now (fun _=>⟨hm.1,by dsimp only;omega,by dsimp only;omega⟩)) (fun h1=>?_)))
 generalize Int.tmod (wrap64 (bt b 0)) t=x at*
 refine qw b hs x 1 1 (by omega) (by omega) (by omega) (by omega) (by omega) (by omega) (fun _ y hy hy1=>?_)
 refine qw b hs _ _ 2 (by omega) (by omega) (by omega) (by omega) (by omega) (by omega) (fun _ y hy hy1=>?_)
 refine qw b hs _ _ 3 (by omega) (by omega) (by omega) (by omega) (by omega) (by omega) (fun _ y hy hy1=>?_)
 exact qw b hs _ _ 4 (by omega) (by omega) (by omega) (by omega) (by omega) (by omega) (fun h9=>absurd h9 (by omega))
def Wl(b:ByteArray)(r:ByteArray×Int×Bool):Prop:=0≤r.2.1∧(r.2.2=true→jh r.1=true∧1≤r.2.1∧r.2.1≤b.size)
theorem a2c(b:ByteArray):Wl b (FJ b):=by
 rcases h:FJ b with⟨w,u,t⟩
 cases t with
 |true=>
  obtain⟨h1,h2,h3,_⟩:=rd_true h
  exact⟨by dsimp only;omega,fun _=>⟨Xg h1,h2,h3⟩⟩
 |false=>
  obtain⟨rfl,rfl⟩:=rd_false h
  exact⟨by decide,fun h=>by cases h⟩
theorem Sk(b:ByteArray):(FJ b).2.1≤b.size:=by
 rcases h:FJ b with⟨w,u,t⟩
 cases t with
 |true=>exact(rd_true h).2.2.1
 |false=>obtain⟨rfl,rfl⟩:=rd_false h;exact Int.natCast_nonneg _
theorem aa3(n lo hi:Int):EvQ (fun _=>cK.f n lo hi) (fun r=>r=true↔lo≤n∧n≤hi):=by
 unfold cK.f
 refine EvQ.ite (fun h=>EvQ.now ⟨fun h1=>⟨by omega,of_decide_eq_true h1⟩,fun h1=>decide_eq_true h1.2⟩) (fun h=>EvQ.now ⟨(fun h1=>by cases h1),fun h1=>absurd h1.1 (by omega)⟩)
theorem a2d:∀x∈lI,fO x=true:=by
 have:lI.all fO=true:=by decide+kernel
 exact fun x hx=>List.all_eq_true.1 this x hx
theorem a2e(l:List bf)(m p:Int)(hl:eO l m=true):EvQ (fun _=>kK.f l m p) (fun r=>r.2.2.2=true→fO (⟨r.1,r.2.1,r.2.2.1⟩:bf)=true):=by
 have hs:=(nA hl).2
 have hf:∀x∈lI++l,fO x=true:=fun x hx=>by
  rcases List.mem_append.1 hx with hx|hx
  ·exact a2d x hx
  ·have:=((pU l m).1 hl).2.2.1
   unfold jI at this
   have:=List.all_eq_true.1 this x hx
   rw[Bool.and_eq_true]at this
   exact this.1
 unfold kK.f
 refine EvQ.bind (EvQ.of_eq (Q:=fun t=>t=lI++l) (r:=lI++l) ?_ rfl) ?_
 ·unfold ji.f
  show(some lI).bind _=_
  rw[Option.bind_some,if_pos (by rw[nJ];omega)]
 ·rintro t rfl
  have hlen:(lI++l).length≤30:=by rw[List.length_append,nJ];omega
  refine EvQ.bind (aa3 p 1 _) ?_
  intro r hr
  refine EvQ.ite (fun h=>?_) (fun _=>EvQ.now (fun h=>by cases h))
  have h1:=hr.1 h
  have e:wrap64 (p-1)=((p-1).toNat:Int):=by rw[dL _ (by omega) (by omega)];omega
  have hj:(p-1).toNat<(lI++l).length:=by omega
  rw[e]
  refine EvQ.pos (by omega) (EvQ.pos (by omega) (EvQ.now (fun _=>?_)))
  rw[uU _ _ hj]
  exact hf _ (List.getElem_mem hj)
def agS(b:ByteArray)(r:ByteArray×ByteArray×Bool×Int×Bool):Prop:=r.2.2.2.2=true→fO (⟨r.1,r.2.1,r.2.2.1⟩:bf)=true∧1≤r.2.2.2.1∧r.2.2.2.1≤b.size
theorem sU{a b:ByteArray}{c:Bool}(ha:jh a=true)(hb:jh b=true)(h:a.size≠0):fO (⟨a,b,c⟩:bf)=true:=by
 unfold fO
 simp only[ha,hb,Bool.true_and,decide_eq_true_eq]
 exact h
theorem Ll{x:bf}(h:fO x=true):jh x.f0=true∧x.f0.size≠0:=by
 unfold fO at h
 simp only[Bool.and_eq_true,decide_eq_true_eq]at h
 exact⟨h.1.1,h.2⟩
theorem PZ(l:List bf)(m:Int)(b:ByteArray)(bits:Int)(hl:eO l m=true)(hs:b.size≤1000000000)(hb:bits=4∨bits=6∨bits=7)(hw:∀c:ByteArray,c.size≤1000000000→Ev (fun k=>bM.f k c) (FJ c)):EvQ (fun k=>gV.f k l m b bits) (agS b):=by
 have hno:agS b ((⟨#[]⟩:ByteArray),(⟨#[]⟩:ByteArray),false,0,false):=fun h=>by cases h
 have hz:∀u:Int,0≤u→u≤(b.size:Int)→((b.extract u.toNat b.size).size:Int)=b.size-u:=fun u h0 h1=>by rw[ByteArray.size_extract];omega
 unfold gV.f
 refine EvQ.bind (PY b hs bits hb) ?_
 rintro⟨p,u,t⟩ hq
 unfold Sj at hq
 dsimp only at*
 refine EvQ.ite (fun ht=>?_) (fun _=>EvQ.now hno)
 obtain⟨hp,hu,hu1⟩:=hq ht
 have hz1:=hz u (by omega) hu1
 refine EvQ.ite (fun h0=>?_) (fun h0=>?_)
 ·refine EvQ.pos (by omega) (EvQ.pos hu1 (EvQ.bindE (hw _ (by omega)) ?_))
  have hr:=a2c (b.extract u.toNat b.size)
  have hr2:=Sk (b.extract u.toNat b.size)
  rcases hx:FJ (b.extract u.toNat b.size)with⟨a,n,t2⟩
  rw[hx]at hr hr2
  unfold Wl at hr
  dsimp only at*
  refine EvQ.ite (fun h2=>EvQ.ite (fun _=>EvQ.now hno) (fun h3=>?_)) (fun _=>EvQ.now hno)
  obtain⟨_,hr⟩:=hr
  obtain⟨hr1,hn,hn1⟩:=hr h2
  have e:wrap64 (u+n)=u+n:=dL _ (by omega) (by omega)
  have hz2:=hz (u+n) (by omega) (by omega)
  simp only[e]
  refine EvQ.pos (by omega) (EvQ.pos (by omega) (EvQ.bindE (hw _ (by omega)) ?_))
  have hv:=a2c (b.extract (u+n).toNat b.size)
  have hv2:=Sk (b.extract (u+n).toNat b.size)
  rcases hy:FJ (b.extract (u+n).toNat b.size)with⟨c,n2,t3⟩
  rw[hy]at hv hv2
  unfold Wl at hv
  dsimp only at*
  refine EvQ.now (fun h5=>?_)
  obtain⟨hv1,hn2,hn3⟩:=hv.2 h5
  refine⟨sU hr1 hv1 (fun h9=>h3 ((jR a).2 h9)),?_,?_⟩<;>(dsimp only;rw[dL _ (by omega) (by omega)];omega)
 ·refine EvQ.bind (a2e l m p hl) ?_
  rintro⟨a,c,d,t2⟩ hf
  dsimp only at*
  refine EvQ.ite (fun h2=>?_) (fun _=>EvQ.now hno)
  have hn:=Ll (hf h2)
  refine EvQ.pos (by omega) (EvQ.pos hu1 (EvQ.bindE (hw _ (by omega)) ?_))
  have hv:=a2c (b.extract u.toNat b.size)
  have hv2:=Sk (b.extract u.toNat b.size)
  rcases hy:FJ (b.extract u.toNat b.size)with⟨v,n2,t3⟩
  rw[hy]at hv hv2
  unfold Wl at hv
  dsimp only at*
  refine EvQ.now (fun h5=>?_)
  obtain⟨hv1,hn2,hn3⟩:=hv.2 h5
  refine⟨sU hn.1 hv1 hn.2,?_,?_⟩<;>(dsimp only;rw[dL _ (by omega) (by omega)];omega)
def aEL(m:Int)(b:ByteArray)(r:List bf×Int×ByteArray×ByteArray×Bool×Int×Bool):Prop:=eO r.1 m=true∧r.2.1=m∧(r.2.2.2.2.2.2=true→fO (⟨r.2.2.1,r.2.2.2.1,r.2.2.2.2.1⟩:bf)=true∧1≤r.2.2.2.2.2.1∧r.2.2.2.2.2.1≤b.size)
theorem a2f(l:List bf)(m:Int)(b:ByteArray)(hl:eO l m=true)(hs:b.size≤1000000000)(hb:0<b.size)(hw:∀c:ByteArray,c.size≤1000000000→Ev (fun k=>bM.f k c) (FJ c)):EvQ (fun k=>bS.f k l m b) (aEL m b):=by
 unfold bS.f
 refine EvQ.pos (by omega) (EvQ.ite (fun _=>?_) (fun _=>EvQ.ite (fun _=>?_) (fun _=>?_)))
 ·refine EvQ.bind (PY b hs 7 (.inr (.inr rfl))) ?_
  rintro⟨p,u,t⟩ hq
  refine EvQ.bind (a2e l m _ hl) ?_
  rintro⟨a,c,d,t2⟩ hf
  unfold Sj at hq
  dsimp only at*
  refine EvQ.ite (fun h=>EvQ.now ⟨hl,rfl,fun h2=>⟨hf h2,(hq h).2.1,(hq h).2.2⟩⟩) (fun h=>EvQ.now ⟨hl,rfl,fun h2=>by cases h2⟩)
 ·refine EvQ.bind (PZ l m b 6 hl hs (.inr (.inl rfl)) hw) ?_
  rintro⟨a,c,d,u,t⟩ hf
  unfold agS at hf
  dsimp only at*
  refine EvQ.ite (fun h=>?_) (fun h=>EvQ.now ⟨hl,rfl,fun h2=>by cases h2⟩)
  refine EvQ.bind (adE l m ⟨a,c,d⟩ hl (hf h).1) ?_
  rintro⟨r,q⟩ ⟨hr1,rfl⟩
  exact EvQ.now ⟨hr1,rfl,fun _=>hf h⟩
 ·refine EvQ.bind (aa3 _ 16 31) ?_
  intro r _
  refine EvQ.ite (fun _=>?_) (fun _=>EvQ.now ⟨hl,rfl,fun h2=>by cases h2⟩)
  refine EvQ.bind (PZ l m b 4 hl hs (.inl rfl) hw) ?_
  rintro⟨a,c,d,u,t⟩ hf
  exact EvQ.now ⟨hl,rfl,fun h=>hf h⟩
def adF(r:List bf×Int×List bf×Bool):Prop:=jP r.2.2.1=true∧(r.2.2.2=true→eO r.1 r.2.1=true)
theorem Yd(hw:∀c:ByteArray,c.size≤1000000000→Ev (fun k=>bM.f k c) (FJ c))(n:Nat):∀(b:ByteArray)(out l:List bf)(m:Int),b.size≤n→n≤1000000→eO l m=true→jP out=true→EvQ (fun k=>dO.l0 k b out l m) adF:=by
 induction n with
 |zero=>
  intro b out l m hb hn hl ho
  exact EvQ.step (fun k=>by rw[dO.l0]) (EvQ.pos ((jR b).2 (by omega)) (EvQ.now ⟨ho,fun _=>hl⟩))
 |succ n ih=>
  intro b out l m hb hn hl ho
  refine EvQ.step (fun k=>by rw[dO.l0]) (EvQ.ite (fun _=>EvQ.now ⟨ho,fun _=>hl⟩) (fun h=>?_))
  have hb0:0<b.size:=Nat.pos_of_ne_zero (fun h0=>h ((jR b).2 h0))
  have hno:EvQ (fun _=>some (([]:List bf),(0:Int),([]:List bf),false)) adF:=EvQ.now ⟨by decide,fun h=>by cases h⟩
  refine EvQ.bind (a2f l m b hl (by omega) hb0 hw) ?_
  rintro⟨l',m',x0,x1,x2,u,t⟩ ⟨h1,h2,h3⟩
  dsimp only at*
  subst h2
  refine EvQ.ite (fun ht=>EvQ.ite (fun _=>hno) (fun h6=>?_)) (fun _=>hno)
  obtain⟨h4,h5,h7⟩:=h3 ht
  have ho':=(pG out).1 ho
  refine EvQ.pos (by omega) (EvQ.pos (by omega) (EvQ.pos h7 (ih _ _ _ _ (by rw[ByteArray.size_extract];omega) (by omega) h1 ((pG _).2 ⟨fun x hx=>?_,by rw[List.length_append,List.length_singleton];omega⟩))))
  rcases List.mem_append.1 hx with hx|hx
  ·exact ho'.1 x hx
  ·rw[List.mem_singleton.1 hx];exact h4
theorem agT(h:List bf)(a:ByteArray)(hh:h.length≤1000)(d:Nat):∀i:Nat,h.length-i=d→i≤h.length→EvQ (fun k=>dI.l0 k h a (i:Int)) (fun _=>True):=by
 induction d with
 |zero=>intro i hd hi;exact EvQ.step (fun k=>by rw[dI.l0]) (EvQ.neg (by omega) (EvQ.now trivial))
 |succ d ih=>
  intro i hd hi
  have e:wrap64 ((i:Int)+1)=((i+1:Nat):Int):=by rw[dL _ (by omega) (by omega)];omega
  refine EvQ.step (fun k=>by rw[dI.l0]) (EvQ.pos (by omega) (EvQ.pos (by omega) (EvQ.ite (fun _=>EvQ.now trivial) (fun _=>?_))))
  rw[e]
  exact ih (i+1) (by omega) (by omega)
theorem uW{h:List bf}(hh:jP h=true):h.length≤6∧∀x∈h,iM x:=by
 obtain⟨h1,h2⟩:=(pG h).1 hh
 exact⟨h2,fun x hx=>ru (h1 x hx)⟩
theorem apT(h:List bf)(a:ByteArray)(hh:jP h=true):EvQ (fun k=>dI.f k h a) (fun _=>True):=by
 have hs:=uW hh
 unfold dI.f
 exact EvQ.bindE (og h (by omega) hs.2) (EvQ.ite (fun _=>agT h a (by omega) h.length 0 (by omega) (by omega)) (fun _=>EvQ.now trivial))
theorem apU(s:ByteArray)(hs:s.size≤1000)(d:Nat):∀(i:Nat)(o:ByteArray),s.size-i=d→i≤s.size→o.size≤i→EvQ (fun k=>dQ.l0 k s o (i:Int)) (fun r=>r.size≤s.size):=by
 induction d with
 |zero=>intro i o hd hi ho;exact EvQ.step (fun k=>by rw[dQ.l0]) (EvQ.neg (by omega) (EvQ.now (by omega)))
 |succ d ih=>
  intro i o hd hi ho
  have e:wrap64 ((i:Int)+1)=((i+1:Nat):Int):=by rw[dL _ (by omega) (by omega)];omega
  have hz:∀c:Int,(strOfNums [c]).size=1:=fun c=>by rw[gu];rfl
  refine EvQ.step (fun k=>by rw[dQ.l0]) (EvQ.pos (by omega) (EvQ.pos (by omega) ?_))
  simp only[Option.bind_some,e]
  refine EvQ.ite (fun _=>EvQ.ite (fun _=>?_) (fun _=>?_)) (fun _=>?_)<;>exact EvQ.pos (by rw[hz];omega) (ih (i+1) _ (by omega) (by omega) (by rw[aK,hz];omega))
theorem a2g(n:Nat)(hn:n≤100000):EvQ (fun k=>dK.f k (n:Int)) (fun r=>r.size≤n+1):=by
 induction n using Nat.strongRecOn with
 |_ n ih=>
  refine EvQ.step (fun k=>by rw[dK.f]) (EvQ.neg (by omega) (EvQ.neg (by omega) (EvQ.ite (fun _=>EvQ.now (by rw[gu];simp)) (fun h=>?_))))
  have e:wrap64 (Int.tdiv (n:Int) 10)=((n/10:Nat):Int):=by
   have:Int.tdiv (n:Int) 10=((n/10:Nat):Int):=rfl
   rw[this,dL _ (by omega) (by omega)]
  rw[e]
  refine EvQ.bind (ih (n/10) (by omega) (by omega)) (fun s hs=>?_)
  simp only[Option.bind_some]
  refine EvQ.pos (by rw[gu];simp only[List.length_cons,List.length_nil];omega) (EvQ.now ?_)
  rw[aK,gu]
  simp only[List.length_cons,List.length_nil]
  omega
theorem w48:jh (⟨#[48]⟩:ByteArray)=true:=by decide+kernel
theorem a2h(p s:ByteArray)(hs:s.size≤16):EvQ (fun k=>gD.f k p s) (fun r=>jh r.1=true∧r.2.size≤100):=by
 unfold gD.f
 refine EvQ.ite (fun _=>EvQ.now ⟨w48,by dsimp only;omega⟩) (fun _=>EvQ.ite (fun _=>?_) (fun _=>EvQ.ite (fun _=>?_) (fun _=>EvQ.now ⟨by decide+kernel,by decide⟩)))
 ·exact EvQ.bind (apU s (by omega) s.size 0 (⟨#[]⟩:ByteArray) (by omega) (by omega) (by rw[lY];omega)) (fun t ht=>EvQ.now ⟨w48,by dsimp only;omega⟩)
 ·exact EvQ.bind (a2g s.size (by omega)) (fun t ht=>EvQ.now ⟨w48,by dsimp only;omega⟩)
theorem Gv(x:Int):EvQ (fun _=>cO.f x) (fun _=>True):=by
 unfold cO.f
 refine EvQ.bind (aa3 _ _ _) ?_
 intro r _
 repeat(first|exact EvQ.now trivial|refine EvQ.ite (fun _=>?_) (fun _=>?_)|refine EvQ.neg (by decide) ?_)
theorem Jb(a:Int)(b:Bool)(c:Int)(d:Bool)(e:Int)(s:ByteArray)(hb:b=true→a≠8):EvQ (fun k=>di.j0 k a b c d e s) (fun r=>r=true→a=8→1≤s.size):=by
 have hf:EvQ (fun _=>some false) (fun r=>r=true→a=8→1≤s.size):=EvQ.now (fun h=>by cases h)
 have h8:EvQ (fun _=>if d=true then some false else(if(s.size:Int)=1 then(if 0<(s.size:Int)then((cK.f (wrap64 (bt s 0)) 1 31).bind fun t=>some t)else none)else some false)) (fun r=>r=true→a=8→1≤s.size):=
  EvQ.ite (fun _=>hf) (fun _=>EvQ.ite (fun h1=>EvQ.pos (by omega) (EvQ.bind (aa3 _ 1 31) (fun _ _=>EvQ.now (fun _ _=>by omega)))) (fun _=>hf))
 refine EvQ.step (fun k=>by rw[di.j0]) (EvQ.ite (fun h=>EvQ.bind (Gv e) (fun _ _=>EvQ.ite (fun _=>EvQ.now (fun _ h1=>absurd h1 (hb h))) (fun _=>hf))) (fun _=>EvQ.ite (fun h3=>EvQ.bind (Gv e) (fun _ _=>EvQ.ite (fun _=>EvQ.ite (fun _=>hf) (fun _=>EvQ.now (fun _ h1=>by omega))) (fun _=>hf))) (fun _=>EvQ.ite (fun _=>EvQ.ite (fun _=>h8) (fun _=>EvQ.bind (Gv e) (fun _ _=>EvQ.ite (fun _=>h8) (fun _=>hf)))) (fun _=>hf))))
theorem aa4(a:Int)(d:Bool)(e:Int)(s:ByteArray):EvQ (fun k=>di.f k a d e s) (fun r=>r=true→a=8→1≤s.size):=by
 unfold di.f
 exact EvQ.ite (fun h=>Jb _ _ _ _ _ _ (fun _=>by omega)) (fun h=>Jb _ _ _ _ _ _ (fun h1=>by have:=eq_of_beq h1;omega))
theorem agU(b:ByteArray)(hs:b.size≤1000000000):EvQ (fun k=>bL.f k b) (fun r=>0<r.2.2.2.2.2→4≤r.2.2.2.2.1∧r.2.2.2.2.1≤(b.size:Int)∧r.2.2.2.1.size≤255∧(r.1=8→1≤r.2.2.2.1.size)):=by
 have h0:=iG b 0
 have e0:wrap64 (bt b 0)=bt b 0:=dL _ (by omega) (by omega)
 have ej:wrap64 (4+bt b 0)=4+bt b 0:=dL _ (by omega) (by omega)
 unfold bL.f
 simp only[e0]
 have hj:∀t:Bool,(t=false→bt b 0≤200)→4≤b.size→EvQ (fun k=>bL.j0 k b (bt b 0) t) (fun r=>0<r.2.2.2.2.2→4≤r.2.2.2.2.1∧r.2.2.2.2.1≤(b.size:Int)∧r.2.2.2.1.size≤255∧(r.1=8→1≤r.2.2.2.1.size)):=by
  intro t ht h4
  refine EvQ.step (fun k=>by rw[bL.j0]) ?_
  simp only[ej]
  refine EvQ.ite (fun _=>EvQ.now (fun h=>absurd h (by decide))) (fun h1=>EvQ.ite (fun _=>EvQ.now (fun h=>absurd h (by decide))) (fun h2=>EvQ.pos (by omega) (EvQ.pos (by omega) (EvQ.pos (by omega) (EvQ.pos (by omega) (EvQ.pos (by omega) ?_))))))
  have hl:=ht (by simpa using h1)
  have hz:(b.extract 4 (4+bt b 0).toNat).size≤255:=by rw[ByteArray.size_extract];omega
  refine EvQ.bind (aa4 _ _ _ _) ?_
  intro r hr
  exact EvQ.ite (fun h3=>EvQ.now (fun _=>⟨by dsimp only;omega,by dsimp only;omega,hz,hr h3⟩)) (fun _=>EvQ.now (fun h=>absurd h (by decide)))
 refine EvQ.ite (fun _=>EvQ.now (fun h=>absurd h (by decide))) (fun h4=>EvQ.pos (by omega) (EvQ.ite (fun _=>hj true (fun h=>by cases h) (by omega)) (fun h=>EvQ.pos (by omega) (hj _ (fun _=>by omega) (by omega)))))
theorem Lp(c:Int):strings_IndexByte.f (⟨#[101,116,97,111,105,110,115,114,104,108,48,49,50,51,52,53,54,55,56,57,100,99,117,109,102,112,103,119,121,98,118,107,120,106,113,122,58,47,45]⟩:ByteArray) c=some (place c):=rfl
theorem Gw(a:ByteArray)(hs:a.size≤1000000000)(d:Nat):∀i:Nat,a.size-i=d→i≤a.size→
 Ev (fun k=>bB.l0 k a (a.size:Int) i) (decide (a.size≤16∧∀j:Nat,j<a.size→i≤j→0≤place (bt a j))):=by
 induction d with
 |zero=>
  intro i hd hi
  have e:i=a.size:=by omega
  refine Ev.step (fun k=>by rw[bB.l0]) ?_
  refine Ev.neg (by omega) ?_
  have:(decide (a.size≤16∧∀j:Nat,j<a.size→i≤j→0≤place (bt a j)))=decide ((a.size:Int)≤16):=by
   rw[decide_eq_decide]
   constructor
   ·rintro⟨h,_⟩;omega
   ·intro h;exact⟨by omega,fun j h1 h2=>by omega⟩
  rw[this]
  exact Ev.now _
 |succ d ih=>
  intro i hd hi
  have hb:=iG a i
  refine Ev.step (fun k=>by rw[bB.l0]) ?_
  refine EvQ.ev (EvQ.pos (by omega) (EvQ.pos (by omega) (EvQ.pos (by omega) ?_)))
  rw[Lp]
  simp only[Option.bind_some]
  refine EvQ.ite (fun h=>EvQ.now ?_) (fun h=>?_)
  ·symm
   rw[decide_eq_false_iff_not]
   rintro⟨_,h2⟩
   have:=h2 i (by omega) (by omega)
   omega
  ·rw[dL _ (by omega) (by omega),show((i:Int)+1)=((i+1:Nat):Int) by omega]
   refine EvQ.of_ev (ih (i+1) (by omega) (by omega)) ?_
   rw[decide_eq_decide]
   constructor
   ·rintro⟨h1,h2⟩
    refine⟨h1,fun j h3 h4=>?_⟩
    by_cases e:j=i
    ·subst e;omega
    ·exact h2 j h3 (by omega)
   ·rintro⟨h1,h2⟩
    exact⟨h1,fun j h3 h4=>h2 j h3 (by omega)⟩
theorem ol(a:ByteArray)(hs:a.size≤1000000000):Ev (fun k=>bB.f k a) (jh a):=by
 unfold bB.f
 have h:=Gw a hs a.size 0 (by omega) (by omega)
 have e:jh a=(decide (a.size≤16∧∀j:Nat,j<a.size→0≤j→0≤place (bt a j))):=by
  unfold jh
  rw[decide_eq_decide,yJ]
  simp
 rw[e]
 exact h
theorem Gx(a b c:Int):eZ.f a b c=some (decide (b≤a∧a≤c)):=by
 unfold eZ.f
 by_cases h:b≤a<;>simp[h]
theorem agV(l:List bf)(hl:Small l)(d:Nat):∀(i:Nat)(a:Int),l.length-i=d→i≤l.length→0≤a→a≤8000004*(i:Int)→
 Ev (fun k=>bP.l0 k a l (l.length:Int) i) (a+jF (l.drop i)):=by
 have hlen:=hl.1
 induction d with
 |zero=>
  intro i a hd hi ha ha1
  have e:i=l.length:=by omega
  subst e
  refine Ev.step (fun k=>by rw[bP.l0]) (Ev.neg (by omega) ?_)
  rw[List.drop_length]
  simp only[jF,Int.add_zero]
  exact Ev.now _
 |succ d ih=>
  intro i a hd hi ha ha1
  have hj:i<l.length:=by omega
  have hs:iM (aU l (i:Int)):=by rw[uU l i hj];exact hl.2 _ (List.getElem_mem hj)
  have h1:=hs.one
  have h2:=one_pos (aU l (i:Int))
  have h3:=hs
  unfold iM at h3
  refine Ev.step (fun k=>by rw[bP.l0]) (EvQ.ev (EvQ.pos (by omega) (EvQ.pos (by omega) (EvQ.pos (by omega) ?_))))
  rw[dL (((aU l (i:Int)).f0.size:Int)+((aU l (i:Int)).f1.size:Int)) (by omega) (by omega),dL (((aU l (i:Int)).f0.size:Int)+((aU l (i:Int)).f1.size:Int)+4) (by omega) (by omega)]
  rw[show((aU l (i:Int)).f0.size:Int)+((aU l (i:Int)).f1.size:Int)+4=one (aU l (i:Int))from rfl]
  rw[dL _ (by omega) (by omega),dL _ (by omega) (by omega),show((i:Int)+1)=((i+1:Nat):Int) by omega,xV l i hj]
  refine EvQ.of_ev (ih (i+1) _ (by omega) (by omega) (by omega) (by omega)) ?_
  simp only[jF]
  omega
theorem agW(l:List bf)(m:Int)(hl:Small l):Ev (fun k=>bP.f k l m) (jF l):=by
 unfold bP.f
 have h:=agV l hl l.length 0 0 (by omega) (by omega) (by omega) (by omega)
 rw[List.drop_zero,Int.zero_add]at h
 exact h
theorem toList_ne_nil(a:ByteArray):(a.toList != ([]:List UInt8))=decide (a.size≠0):=by
 unfold bne
 rw[qH]
 by_cases h:a.size=0<;>simp[h]
theorem vF(x:bf)(h:iM x):Ev (fun k=>fK.f k x.f0 x.f1 x.f2) (fO x):=by
 unfold iM at h
 unfold fK.f fO
 refine EvQ.ev (EvQ.bindE (ol x.f0 (by omega)) ?_)
 refine EvQ.ite (fun h1=>?_) (fun h1=>EvQ.now (by simp[h1]))
 refine EvQ.bindE (ol x.f1 (by omega)) ?_
 refine EvQ.ite (fun h2=>EvQ.now (by rw[h1,h2,toList_ne_nil];rfl)) (fun h2=>EvQ.now (by simp[h2]))
theorem Bl(x:bf)(h:iM x):Ev (fun k=>gU.f k x.f0 x.f1 x.f2) (!(fO x&& !x.f2)):=by
 unfold gU.f
 refine EvQ.ev (EvQ.bindE (vF x h) ?_)
 refine EvQ.ite (fun h1=>EvQ.now (by simp[h1])) (fun h1=>EvQ.now (by simp[h1]))
def Jc(p:bf→Bool):List bf→Int→Int
 |[],_=> -1
 |x::l,i=>if p x then i else Jc p l (i+1)
theorem Ye(p:bf→Bool)(l:List bf):∀i:Int,0≤i→decide (0≤Jc p l i)=l.any p:=by
 induction l with
 |nil=>intro i _;rfl
 |cons x l ih=>
  intro i hi
  unfold Jc
  by_cases h:p x=true
  ·rw[if_pos h,List.any_cons,h];simpa using hi
  ·rw[if_neg h,List.any_cons,ih _ (by omega)];simp[h]
theorem Sl(p:Nat→bf→Option Bool)(q:bf→Bool)(l:List bf)(h:∀x∈l,Ev (fun k=>p k x) (q x)):∀i:Int,Ev (fun k=>idxFrom (p k) l i) (Jc q l i):=by
 induction l with
 |nil=>intro i;unfold idxFrom Jc;exact Ev.now _
 |cons x l ih=>
  intro i
  unfold idxFrom Jc
  refine EvQ.ev (EvQ.bindE (h x List.mem_cons_self) (EvQ.ite (fun h1=>EvQ.now (by rw[if_pos h1])) (fun h1=>?_)))
  rw[if_neg h1]
  exact EvQ.of_ev (ih (fun y hy=>h y (List.mem_cons_of_mem _ hy)) (i+1)) rfl
theorem DC(g:Nat)(q:bf→Bool)(l:List bf)(hk:aC.known g)(hl:l.length≤1000000000)(h:∀x∈l,Ev (fun k=>aC.p k g x) (q x)):
 Ev (fun k=>aC.f k l g) (l.any q):=by
 unfold aC.f
 refine Ev.pos ⟨hl,hk⟩ (EvQ.ev (EvQ.bindE (Sl (fun k=>aC.p k g) q l h 0) (EvQ.now (Ye q l 0 (by omega)))))
theorem DF(p:bf→Bool)(l:List bf):l.any (fun x=> !p x)= !l.all p:=by
 induction l with
 |nil=>rfl
 |cons x l ih=>rw[List.any_cons,List.all_cons,ih];cases p x<;>rfl
theorem Ed(l:List bf)(m:Int)(hl:Small l):Ev (fun k=>eu.f k l m) (eO l m):=by
 have hlen:=hl.1
 unfold eu.f eO
 rw[Gx]
 simp only[Option.bind_some]
 refine EvQ.ev (EvQ.ite (fun h1=>?_) (fun h1=>EvQ.now (by rw[decide_eq_false (fun h=>h1 (decide_eq_true h))];rfl)))
 have hc:=DC 64 (fun x=> !(fO x&& !x.f2)) l (by unfold aC.known;simp) (by omega) (fun x hx=>by
  have:=Bl x (hl.2 x hx)
  unfold aC.p
  simpa using this)
 rw[DF (fun x=>fO x&& !x.f2)]at hc
 refine EvQ.bindE hc (EvQ.ite (fun h2=>EvQ.now ?_) (fun h2=>EvQ.bindE (agW l m hl) (EvQ.now ?_)))
 ·rw[h1]
  have h3:jI l=false:=by unfold jI;simpa using h2
  rw[h3];rfl
 ·rw[h1]
  have h3:jI l=true:=by unfold jI;simpa using h2
  rw[h3];rfl
theorem Cm(x:bf)(h:iM x):Ev (fun k=>iE.f k x.f0 x.f1 x.f2) (!fO x):=by
 unfold iE.f
 exact EvQ.ev (EvQ.bindE (vF x h) (EvQ.now rfl))
theorem wO(h:List bf)(hs:∀x∈h,iM x):Ev (fun k=>eD.f k h) (jP h):=by
 unfold eD.f jP
 refine EvQ.ev (EvQ.ite (fun h1=>?_) (fun h1=>EvQ.now ?_))
 ·have hc:=DC 76 (fun x=> !fO x) h (by unfold aC.known;simp) (by omega) (fun x hx=>by
   have:=Cm x (hs x hx)
   unfold aC.p
   simpa using this)
  rw[DF fO]at hc
  refine EvQ.bindE hc (EvQ.now ?_)
  rw[decide_eq_true (by omega:h.length≤6)]
  simp
 ·rw[decide_eq_false (by omega:¬h.length≤6)]
  simp
def lG(p:jS→Bool):List jS→Int→Int
 |[],_=> -1
 |x::l,i=>if p x then i else lG p l (i+1)
theorem Bn(p:jS→Bool)(l:List jS):∀i:Int,0≤i→decide (0≤lG p l i)=l.any p:=by
 induction l with
 |nil=>intro i _;rfl
 |cons x l ih=>
  intro i hi
  unfold lG
  by_cases h:p x=true
  ·rw[if_pos h,List.any_cons,h];simpa using hi
  ·rw[if_neg h,List.any_cons,ih _ (by omega)];simp[h]
theorem Cn(p:Nat→jS→Option Bool)(q:jS→Bool)(l:List jS)(h:∀x∈l,Ev (fun k=>p k x) (q x)):∀i:Int,Ev (fun k=>gH (p k) l i) (lG q l i):=by
 induction l with
 |nil=>intro i;unfold gH lG;exact Ev.now _
 |cons x l ih=>
  intro i
  unfold gH lG
  refine EvQ.ev (EvQ.bindE (h x List.mem_cons_self) (EvQ.ite (fun h1=>EvQ.now (by rw[if_pos h1])) (fun h1=>?_)))
  rw[if_neg h1]
  exact EvQ.of_ev (ih (fun y hy=>h y (List.mem_cons_of_mem _ hy)) (i+1)) rfl
theorem Bo(g:Nat)(q:jS→Bool)(l:List jS)(hk:aG.known g)(hl:l.length≤1000000000)(h:∀x∈l,Ev (fun k=>aG.p k g x) (q x)):
 Ev (fun k=>aG.f k l g) (l.any q):=by
 unfold aG.f
 refine Ev.pos ⟨hl,hk⟩ (EvQ.ev (EvQ.bindE (Cn (fun k=>aG.p k g) q l h 0) (EvQ.now (Bn q l 0 (by omega)))))
theorem Bp(p:jS→Bool)(l:List jS):l.any (fun x=> !p x)= !l.all p:=by
 induction l with
 |nil=>rfl
 |cons x l ih=>rw[List.any_cons,List.all_cons,ih];cases p x<;>rfl
theorem Ev.eq{α:Type}{r:α}{o:Option α}(h:o=some r):Ev (fun _=>o) r:=⟨0,fun _ _=>h⟩
theorem Ev.and{g f:Nat→Option Bool}{b c:Bool}(h:Ev g b)(k:b=true→Ev f c):Ev (fun n=>(g n).bind fun t=>if t=true then f n else some false) (b&&c):=by
 refine EvQ.ev (EvQ.bindE h (EvQ.ite (fun h1=>EvQ.of_ev (k h1) (by rw[h1];rfl)) (fun h1=>EvQ.now ?_)))
 cases b
 ·rfl
 ·exact absurd rfl h1
theorem Ev.one{g:Nat→Option Bool}{b:Bool}(h:Ev g b):Ev (fun n=>(g n).bind fun t=>some t) b:=EvQ.ev (EvQ.bindE h (EvQ.now rfl))
def inr(a b c:Int):Bool:=decide (b≤a∧a≤c)
def uq(n:Int):Bool:=inr n 1 7&&(Int.tmod n 2==1)
def qc(s r:Int):Bool:=inr s 0 31&&inr r 0 31
theorem DI(n:Int):gB.f n=some (uq n):=by
 unfold gB.f uq inr
 rw[Gx]
 simp only[Option.bind_some]
 by_cases h:1≤n∧n≤7<;>simp[h]
theorem Bq(n:Int):cO.f n=some (uq n):=by
 unfold cO.f uq inr
 rw[uV]
 simp only[Option.bind_some]
 by_cases h:1≤n∧n≤7<;>simp[h]
theorem Wm(s r:Int):kS.f s r=some (qc s r):=by
 unfold kS.f qc inr
 simp only[Gx,Option.bind_some]
 by_cases h:0≤s∧s≤31<;>simp[h]
theorem Q0(s r:Int):kR.f s r=some (qc s r):=by
 unfold kR.f qc inr
 simp only[uV,Option.bind_some]
 by_cases h:0≤s∧s≤31<;>simp[h]
def iR(x:jS):Bool:=
 if x.f0=8 then(decide (x.f2=0)||uq x.f2)&&(!x.f1&&(decide ((x.f3.size:Int)=1)&&inr (wrap64 (bt x.f3 0)) 1 31))
 else uq x.f2&&(if x.f0=0∨x.f0=1 then decide ((x.f3.size:Int)≤200)else decide (x.f0=3)&&((x.f3.toList==([]:List UInt8))&& !x.f1))
theorem Q5(x:jS):jJ.f x.f0 x.f1 x.f2 x.f3=some (iR x):=by
 unfold jJ.f iR
 simp only[Gx,DI,Option.bind_some]
 by_cases h8:x.f0=8
 ·rw[if_pos h8,if_pos h8]
  cases h1:x.f1<;>by_cases hs:(x.f3.size:Int)=1<;>by_cases h0:x.f2=0<;>cases hi:uq x.f2<;>simp[hs,h0,hi,inr]
 ·rw[if_neg h8,if_neg h8]
  cases hi:uq x.f2
  ·simp
  ·by_cases h0:x.f0=0
   ·simp[h0]
   ·by_cases h1:x.f0=1
    ·simp[h1]
    ·by_cases h3:x.f0=3
     ·by_cases hl:x.f3.toList=([]:List UInt8)<;>simp[h3,hl]
     ·simp[h0,h1,h3]
theorem Jd(x:jS):Ev (fun k=>di.f k x.f0 x.f1 x.f2 x.f3) (iR x):=by
 refine⟨1,fun k hk=>?_⟩
 obtain⟨k,rfl⟩:∃m,k=m+1:=⟨k-1,by omega⟩
 unfold di.f iR
 simp only[di.j0,uV,Bq,Option.bind_some]
 by_cases h8:x.f0=8
 ·rw[if_pos h8,if_neg (by omega)]
  cases h1:x.f1<;>by_cases hs:(x.f3.size:Int)=1<;>by_cases h0:x.f2=0<;>cases hi:uq x.f2<;>simp[hs,h0,h8,hi,inr]
 ·rw[if_neg h8]
  cases hi:uq x.f2
  ·by_cases h0:x.f0=0
   ·simp[h0]
   ·by_cases h1:x.f0=1
    ·simp[h1]
    ·by_cases h3:x.f0=3<;>simp[h0,h1,h3,h8]
  ·by_cases h0:x.f0=0
   ·simp[h0]
   ·by_cases h1:x.f0=1
    ·simp[h1]
    ·by_cases h3:x.f0=3
     ·by_cases hl:x.f3.toList=([]:List UInt8)<;>cases h1:x.f1<;>simp[h3,hl]
     ·simp[h0,h1,h3,h8]
theorem Sm(x:jS):mM.f x.f0 x.f1 x.f2 x.f3=some (!iR x):=by
 unfold mM.f
 rw[Q5]
 rfl
def SmS(x:uF):Prop:=Small x.f2∧x.f3.size≤4000000∧Small x.f7∧x.f8.size≤4000000
def lD(x:uF):Bool:=inr x.f1 1 3&&(jP x.f2&&(jP x.f7&&(jh x.f3&&(jh x.f8&&(inr x.f6 0 (x.f3.size:Int)&&qc x.f10.f0 x.f10.f1)))))
theorem Yf(x:uF)(h:SmS x):Ev (fun k=>jr.f k x.f0 x.f1 x.f2 x.f3 x.f4 x.f5 x.f6 x.f7 x.f8 x.f9 x.f10.f0 x.f10.f1) (lD x):=by
 obtain⟨h2,h3,h7,h8⟩:=h
 unfold jr.f lD
 exact Ev.and (Ev.eq (Gx _ _ _)) fun _=>Ev.and (wO x.f2 h2.2) fun _=>Ev.and (wO x.f7 h7.2) fun _=>Ev.and (ol x.f3 (by omega)) fun _=>Ev.and (ol x.f8 (by omega)) fun _=>Ev.and (Ev.eq (Gx _ _ _)) fun _=>Ev.one (Ev.eq (Wm _ _))
theorem Sn(x:uF)(h:SmS x):Ev (fun k=>iP.f k x.f0 x.f1 x.f2 x.f3 x.f4 x.f5 x.f6 x.f7 x.f8 x.f9 x.f10.f0 x.f10.f1) (uq x.f0&&lD x):=by
 obtain⟨h2,h3,h7,h8⟩:=h
 have l2:=h2.1
 have l7:=h7.1
 unfold iP.f lD
 exact Ev.and (Ev.eq (Bq _)) fun _=>Ev.and (Ev.eq (uV _ _ _)) fun _=>Ev.and (og x.f2 (by omega) h2.2) fun _=>Ev.and (og x.f7 (by omega) h7.2) fun _=>Ev.and (kN x.f3 (by omega)) fun _=>Ev.and (kN x.f8 (by omega)) fun _=>Ev.and (Ev.eq (uV _ _ _)) fun _=>Ev.one (Ev.eq (Q0 _ _))
theorem aa5(l:List uF)(i:Nat)(h:i<l.length):fV l (i:Int)=l[i]:=by
 unfold fV
 rw[Int.toNat_natCast,List.getD_eq_getElem?_getD,List.getElem?_eq_getElem h]
 rfl
theorem Wn(l:List jS)(i:Nat)(h:i<l.length):fZ l (i:Int)=l[i]:=by
 unfold fZ
 rw[Int.toNat_natCast,List.getD_eq_getElem?_getD,List.getElem?_eq_getElem h]
 rfl
def Gy(ans:Bool)(l:List uF)(i:Nat):Bool:=
 uq (fV l i).f0&&((decide (i=0)||decide ((fV l ((i:Int)-1)).f0<(fV l i).f0))&&((ans||decide ((fV l i).f0=2*(i:Int)+1))&&lD (fV l i)))
def Gz(ans:Bool)(l:List uF):Nat→Nat→Bool
 |0,_=>true
 |d+1,i=>Gy ans l i&&Gz ans l d (i+1)
def wP(l1:List bf)(m1:Int)(l3:List bf)(m3:Int)(c:ByteArray)(s r:Int)(w:List jS):Bool:=
 decide ((w.length:Int)≤60)&&(w.all iR&&(decide ((c.size:Int)≤600)&&(eO l1 m1&&(eO l3 m3&&qc s r))))
def vG(ans:Bool)(l1:List bf)(m1:Int)(l3:List bf)(m3:Int)(c:ByteArray)(l:List uF)(s r:Int)(w:List jS):Bool:=Gz ans l l.length 0&&wP l1 m1 l3 m3 c s r w
def SmE(l1 l3:List bf)(c:ByteArray)(l:List uF)(w:List jS):Prop:=
 Small l1∧Small l3∧c.size≤4000000∧(l.length≤4000000∧∀x∈l,SmS x)∧(w.length≤4000000∧∀x∈w,x.f3.size≤4000000)
end Go.Proofs.YtokblgdgpnakpaaGreat.Pure
namespace Go.Proofs.YtokblgdgpnakpaaGreat.PFnEndLess
open Go.RowKit Go.Proofs.YtokblgdgpnakpaaGreatW.PrintWords Go.Proofs.YtokblgdgpnakpaaGreatW.PrintLast Go.Proofs.YtokblgdgpnakpaaGreatW.PrintMore Go.Proofs.YtokblgdgpnakpaaGreat.Lm
open Go.Proofs.YtokblgdgpnakpaaGreat.Pure
attribute [local go_sem] bA bn bV bW aW aV bE bF
def FR(b:Nat)(w:World)(v:Value)(l:List bf):Prop:=Kd.R iH 89 w b (fun _=>True) v l
def uX(w w':World):Prop:=∀(k:Nat)(cs:Array Value),w.heap[k]?=some (Obj.cells cs 89 (0,0))→w'.heap[k]?=w.heap[k]?
section
variable {b:Nat} {w w' w0 w1 w2:World} {v:Value} {l:List bf} {X X':Nat→Prop} {M M0 M1 M2 M':Nat→Nat→Prop}
theorem FR.stay(h:FR b w v l)(hk:uX w w'):FR b w' v l:=
 Kd.R_mono (Kd.R_move (Kd.R_bound h) (fun k hk'=>by
  obtain⟨_,_,_,q,hq,cs,hc⟩:=hk'
  have hq':q=89:=by
   rcases List.mem_cons.1 hq with e|e
   ·exact e
   ·exact absurd e (List.not_mem_nil)
  subst hq'
  exact hk k cs hc)) (fun _ _=>trivial)
theorem FR.slice(h:FR b w v l):∃A c,v= .slice A l.length c∧l.length≤c∧Kd.C iH w A l.length l:=Kd.R_reads h
theorem FR.one(h:FR b w v l):v.oneCell'=true:=by obtain⟨A,c,rfl,_⟩:=h.slice;rfl
theorem FR.of{n:Nat}{ok:Nat→Prop}(h:Kd.R iH 89 w n ok v l)(hb:b≤n):FR b w v l:=Kd.R_lower (Kd.R_mono h (fun _ _=>trivial)) hb
theorem FR.nil(b:Nat)(w:World):FR b w (.slice none 0 0) []:=Kd.R_nil _ _ _ _ _
theorem uX.refl(w:World):uX w w:=fun _ _ _=>rfl
theorem uX.trans(h:uX w w1)(k:uX w1 w2):uX w w2:=fun i cs hi=>(k i cs ((h i cs hi).trans hi)).trans (h i cs hi)
theorem uX.below(h:Below w.heap.size w w'):uX w w':=fun k _ hc=>h.block k (gJ hc)
structure ST(b:Nat)(w:World)(v2:Value)(x3:ByteArray)(x6:Int)(v7:Value)(x8:ByteArray):Prop where
 h2:∃l,FR b w v2 l∧jP l=true
 h7:∃l,FR b w v7 l∧jP l=true
 s0:0≤x6
 s1:x6≤(x3.size:Int)
 s3:x3.size≤100
 s8:x8.size≤16
theorem ST.stay{v2 v7:Value}{x3 x8:ByteArray}{x6:Int}(h:ST b w v2 x3 x6 v7 x8)(hk:uX w w'):ST b w' v2 x3 x6 v7 x8:=by
 obtain⟨⟨l2,h2,o2⟩,⟨l7,h7,o7⟩,s0,s1,s3,s8⟩:=h
 exact⟨⟨l2,h2.stay hk,o2⟩,⟨l7,h7.stay hk,o7⟩,s0,s1,s3,s8⟩
def SE(b:Nat)(w:World)(cs:List Value):Prop:=∃x0 x1 v2 x3 x4 x5 x6 v7 x8 x9 x10 qy,cs=[.int .i64 x0,.int .i64 x1,v2,.string x3,.bool x4,.bool x5,.int .i64 x6,v7,.string x8,.bool x9,.int .i64 x10,.int .i64 qy]∧ST b w v2 x3 x6 v7 x8
def FT(x0:Int)(x3:ByteArray):Prop:=(x0=8→1≤x3.size)∧x3.size≤255
def FE(cs:List Value):Prop:=∃x0 x1 x2 x3,cs=[.int .i64 x0,.bool x1,.int .i64 x2,.string x3]∧FT x0 x3
theorem SE.stay{cs:List Value}(h:SE b w cs)(hk:uX w w'):SE b w' cs:=by
 obtain⟨x0,x1,v2,x3,x4,x5,x6,v7,x8,x9,x10,qy,e,t⟩:=h
 exact⟨x0,x1,v2,x3,x4,x5,x6,v7,x8,x9,x10,qy,e,t.stay hk⟩
theorem SE.len{cs:List Value}(h:SE b w cs):cs.length=12:=by
 obtain⟨x0,x1,v2,x3,x4,x5,x6,v7,x8,x9,x10,qy,rfl,t⟩:=h;rfl
theorem FE.len{cs:List Value}(h:FE cs):cs.length=4:=by obtain⟨x0,x1,x2,x3,rfl,t⟩:=h;rfl
theorem SE.one{cs:List Value}(h:SE b w cs):∀u∈cs,u.oneCell'=true:=by
 obtain⟨x0,x1,v2,x3,x4,x5,x6,v7,x8,x9,x10,qy,rfl,t⟩:=h
 obtain⟨l2,h2,_⟩:=t.h2
 obtain⟨l7,h7,_⟩:=t.h7
 intro u hu
 simp only[List.mem_cons,List.not_mem_nil,or_false]at hu
 rcases hu with rfl|rfl|rfl|rfl|rfl|rfl|rfl|rfl|rfl|rfl|rfl|rfl<;>first|rfl|exact h2.one|exact h7.one
theorem FE.one{cs:List Value}(h:FE cs):∀u∈cs,u.oneCell'=true:=by
 obtain⟨x0,x1,x2,x3,rfl,t⟩:=h
 intro u hu
 simp only[List.mem_cons,List.not_mem_nil,or_false]at hu
 rcases hu with rfl|rfl|rfl|rfl<;>rfl
def EE(cs:List Value):Prop:=cs.length=5∧∀u∈cs,u.oneCell'=true
def wide(T:Nat):Nat:=if T=39 then 12 else if T=42 then 4 else 5
def Elem(b:Nat)(w:World)(T:Nat)(cs:List Value):Prop:=(T=39∧SE b w cs)∨(T=42∧FE cs)∨(T=99∧EE cs)
theorem Elem.stay{T:Nat}{cs:List Value}(h:Elem b w T cs)(hk:uX w w'):Elem b w' T cs:=by
 rcases h with⟨e,h⟩|⟨e,h⟩|h
 ·exact .inl ⟨e,h.stay hk⟩
 ·exact .inr (.inl ⟨e,h⟩)
 ·exact .inr (.inr h)
theorem Elem.len{T:Nat}{cs:List Value}(h:Elem b w T cs):cs.length=wide T:=by
 rcases h with⟨rfl,h⟩|⟨rfl,h⟩|⟨rfl,h⟩
 ·exact h.len
 ·exact h.len
 ·exact h.1
theorem Elem.one{T:Nat}{cs:List Value}(h:Elem b w T cs):∀u∈cs,u.oneCell'=true:=by
 rcases h with⟨rfl,h⟩|⟨rfl,h⟩|⟨rfl,h⟩
 ·exact h.one
 ·exact h.one
 ·exact h.2
theorem Elem.ty{T:Nat}{cs:List Value}(h:Elem b w T cs):T≠89:=by
 rcases h with⟨rfl,h⟩|⟨rfl,h⟩|⟨rfl,h⟩<;>decide
def seg(cs:Array Value)(i m:Nat):List Value:=(cs.toList.drop (i*m)).take m
def TW(b:Nat)(M:Nat→Nat→Prop)(w:World):Prop:=∀k n,M k n→b≤k∧∃T cs,w.heap[k]?=some (.cells cs T (0,0))∧T≠89∧n*wide T≤cs.size∧∀i,i<n→Elem b w T (seg cs i (wide T))
theorem TW.move(h:TW b M w)(hk:uX w w')(hm:∀k n,M k n→w'.heap[k]?=w.heap[k]?):TW b M w':=by
 intro k n hM
 obtain⟨hb,T,cs,e,t,hs,he⟩:=h k n hM
 exact⟨hb,T,cs,(hm k n hM).trans e,t,hs,fun i hi=>(he i hi).stay hk⟩
theorem TW.lt{k n:Nat}(h:TW b M w)(hM:M k n):k<w.heap.size:=by
 obtain⟨_,T,cs,e,_⟩:=h k n hM
 exact gJ e
theorem TW.none(b:Nat)(w:World):TW b (fun _ _=>False) w:=fun _ _ h=>h.elim
structure TS(b:Nat)(X:Nat→Prop)(M:Nat→Nat→Prop)(w:World)(M':Nat→Nat→Prop)(w':World):Prop where
 tw:TW b M' w'
 mono:∀k n,M k n→M' k n
 new:∀k n,M' k n→(∃m,M k m)∨w.heap.size≤k
 size:w.heap.size≤w'.heap.size
 os:Below 0 w w'
 stay:uX w w'
 keep:∀k,k<w.heap.size→¬X k→(∀n,¬M k n)→w'.heap[k]?=w.heap[k]?
 shape:∀k n,M k n→∀cs T,w.heap[k]?=some (.cells cs T (0,0))→∃cs',w'.heap[k]?=some (.cells cs' T (0,0))∧cs'.size=cs.size
theorem agX{n:Nat}(h:Below n w w'):Below 0 w w':=⟨h.os,h.tape,h.output,h.size,fun _ hk=>absurd hk (Nat.not_lt_zero _)⟩
theorem TS.refl(h:TW b M w):TS b X M w M w:=⟨h,fun _ _ h=>h,fun k n h=>.inl ⟨n,h⟩,Nat.le_refl _,Below.refl _ _,uX.refl _,fun _ _ _ _=>rfl,fun _ _ _ cs _ e=>⟨cs,e,rfl⟩⟩
theorem TS.trans(h:TS b X M w M1 w1)(k:TS b X' M1 w1 M2 w2)(hX:∀k,X' k→X k∨w.heap.size≤k):TS b X M w M2 w2 where
 tw:=k.tw
 mono:=fun i n hM=>k.mono i n (h.mono i n hM)
 new:=fun i n hM=>by
  rcases k.new i n hM with⟨m,h1⟩|h1
  ·exact h.new i m h1
  ·exact .inr (Nat.le_trans h.size h1)
 size:=Nat.le_trans h.size k.size
 os:=⟨k.os.os.trans h.os.os,k.os.tape.trans h.os.tape,k.os.output.trans h.os.output,Nat.le_trans h.os.size k.os.size,fun _ h=>absurd h (Nat.not_lt_zero _)⟩
 stay:=h.stay.trans k.stay
 keep:=fun i hi hX' hM=>(k.keep i (Nat.lt_of_lt_of_le hi h.size) (fun h1=>(hX i h1).elim hX' (fun h2=>Nat.not_le.2 hi h2)) (fun n h1=>(h.new i n h1).elim (fun⟨m,h2⟩=>hM m h2) (fun h2=>Nat.not_le.2 hi h2))).trans (h.keep i hi hX' hM)
 shape:=fun i n hM cs T e=>by
  obtain⟨cs1,e1,s1⟩:=h.shape i n hM cs T e
  obtain⟨cs2,e2,s2⟩:=k.shape i n (h.mono i n hM) cs1 T e1
  exact⟨cs2,e2,s2.trans s1⟩
theorem TS.below1(h:TW b M w)(hb:Below w.heap.size w w'):TS b X M w M w':=
 ⟨h.move (.below hb) (fun k n hM=>hb.block k (h.lt hM)),fun _ _ h=>h,fun k n h=>.inl ⟨n,h⟩,hb.size,agX hb,.below hb,fun k hk _ _=>hb.block k hk,fun k n hM cs T e=>⟨cs,(hb.block k (h.lt hM)).trans e,rfl⟩⟩
theorem TS.below(h:TS b X M0 w0 M w)(hb:Below w.heap.size w w'):TS b X M0 w0 M w':=h.trans (X':=fun _=>False) (.below1 h.tw hb) (fun _ h=>h.elim)
theorem TS.box{g:Nat}(h:TW b M w)(hk:ax w w' g none)(hb:Below 0 w w')(hg:∀n,¬M g n)(h89:∀cs,w.heap[g]?≠some (.cells cs 89 (0,0))):TS b (fun k=>k=g) M w M w':=by
 have hst:uX w w':=fun k cs hc=>hk.2 k (gJ hc) (fun e=>h89 cs (e▸hc)) (by simp)
 have hM:∀k n,M k n→w'.heap[k]?=w.heap[k]?:=fun k n hM=>hk.2 k (h.lt hM) (fun e=>hg n (e▸hM)) (by simp)
 exact⟨h.move hst hM,fun _ _ h=>h,fun k n h=>.inl ⟨n,h⟩,hk.1,hb,hst,fun k hlt hne _=>hk.2 k hlt hne (by simp),fun k n h cs T e=>⟨cs,(hM k n h).trans e,rfl⟩⟩
theorem TS.put{k:Nat}{cs cs':Array Value}{T n:Nat}(h:TW b M w)(hM:M k n)(e:w.heap[k]?=some (.cells cs T (0,0)))(hb:Below 0 w w')(hk:ax w w' k none)(e':w'.heap[k]?=some (.cells cs' T (0,0)))(hs:cs'.size=cs.size)
 (he:∀m,M k m→∀i,i<m→Elem b w' T (seg cs' i (wide T))):TS b X M w M w':=by
 obtain⟨hbk,T',cs1,e1,ht,_⟩:=h k n hM
 have hT:T'=T:=by rw[e]at e1;injection e1 with e1;injection e1 with _ e1;exact e1.symm
 subst hT
 have hst:uX w w':=fun i ci hc=>hk.2 i (gJ hc) (fun ei=>by subst ei;rw[e]at hc;injection hc with hc;injection hc with _ hc;exact ht hc) (by simp)
 refine⟨?_,fun _ _ h=>h,fun k n h=>.inl ⟨n,h⟩,hk.1,hb,hst,fun i hlt _ hne=>hk.2 i hlt (fun ei=>hne n (ei▸hM)) (by simp),?_⟩
 ·intro i m hm
  by_cases ei:i=k
  ·subst ei
   obtain⟨_,T2,cs2,e2,_,s2,_⟩:=h i m hm
   have:cs2=cs∧T2=T':=by rw[e]at e2;injection e2 with e2;injection e2 with e3 e4;exact⟨e3.symm,e4.symm⟩
   obtain⟨rfl,rfl⟩:=this
   exact⟨hbk,T2,cs',e',ht,by rw[hs];exact s2,he m hm⟩
  ·obtain⟨hbi,T2,cs2,e2,t2,s2,h2⟩:=h i m hm
   exact⟨hbi,T2,cs2,(hk.2 i (gJ e2) ei (by simp)).trans e2,t2,s2,fun j hj=>(h2 j hj).stay hst⟩
 ·intro i m hm ci Ti ei
  by_cases eik:i=k
  ·subst eik
   rw[e]at ei
   injection ei with ei
   injection ei with e3 e4
   subst e3 e4
   exact⟨cs',e',hs⟩
  ·exact⟨ci,(hk.2 i (gJ ei) eik (by simp)).trans ei,rfl⟩
theorem TS.add{k n:Nat}(h:TS b X M0 w0 M w)(hk:(∃m,M k m)∨w0.heap.size≤k)(ht:b≤k∧∃T cs,w.heap[k]?=some (.cells cs T (0,0))∧T≠89∧n*wide T≤cs.size∧∀i,i<n→Elem b w T (seg cs i (wide T))):
 TS b X M0 w0 (fun i m=>M i m∨(i=k∧m=n)) w where
 tw:=fun i m hm=>by
  rcases hm with hm|⟨rfl,rfl⟩
  ·exact h.tw i m hm
  ·exact ht
 mono:=fun i m hm=>.inl (h.mono i m hm)
 new:=fun i m hm=>by
  rcases hm with hm|⟨rfl,rfl⟩
  ·exact h.new i m hm
  ·rcases hk with⟨m',hk⟩|hk
   ·exact h.new i m' hk
   ·exact .inr hk
 size:=h.size
 os:=h.os
 stay:=h.stay
 keep:=h.keep
 shape:=h.shape
def SL(M:Nat→Nat→Prop)(w:World)(T:Nat)(v:Value)(N:Nat):Prop:=∃A n c,v= .slice A n c∧n≤N∧((A=none∧n=0∧c=0)∨∃k cs,A=some ⟨k,0,none⟩∧M k n∧w.heap[k]?=some (.cells cs T (0,0))∧n≤c∧cs.size=c*wide T∧c≤maxLen)
theorem SL.ts{T N:Nat}(h:SL M w T v N)(k:TS b X M w M' w'):SL M' w' T v N:=by
 obtain⟨A,n,c,e,hn,h|⟨i,cs,e1,h1,h2,h3,h4,h5⟩⟩:=h
 ·exact⟨A,n,c,e,hn,.inl h⟩
 ·obtain⟨cs',e2,s2⟩:=k.shape i n h1 cs T h2
  exact⟨A,n,c,e,hn,.inr ⟨i,cs',e1,k.mono i n h1,e2,h3,s2.trans h4,h5⟩⟩
theorem SL.mono{T N N':Nat}(h:SL M w T v N)(hN:N≤N'):SL M w T v N':=by
 obtain⟨A,n,c,e,hn,h⟩:=h
 exact⟨A,n,c,e,Nat.le_trans hn hN,h⟩
theorem SL.nil(M:Nat→Nat→Prop)(w:World)(T N:Nat):SL M w T (.slice none 0 0) N:=⟨none,0,0,rfl,Nat.zero_le _,.inl ⟨rfl,rfl,rfl⟩⟩
theorem SL.one{T N:Nat}(h:SL M w T v N):v.oneCell'=true:=by obtain⟨A,n,c,rfl,_⟩:=h;rfl
structure ET(b:Nat)(M:Nat→Nat→Prop)(w:World)(N C:Nat)(v1:Value)(x2:Int)(v3:Value)(x4:Int)(x5:ByteArray)(v6 v9:Value):Prop where
 t1:∃l,FR b w v1 l∧eO l x2=true
 t3:∃l,FR b w v3 l∧eO l x4=true
 c5:x5.size≤C
 s6:SL M w 39 v6 N
 s9:SL M w 42 v9 N
theorem ET.ts{N N' C:Nat}{v1 v3 v6 v9:Value}{x2 x4:Int}{x5:ByteArray}(h:ET b M w N C v1 x2 v3 x4 x5 v6 v9)(k:TS b X M w M' w')(hN:N≤N'):ET b M' w' N' C v1 x2 v3 x4 x5 v6 v9:=by
 obtain⟨⟨l1,h1,o1⟩,⟨l3,h3,o3⟩,c5,s6,s9⟩:=h
 exact⟨⟨l1,h1.stay k.stay,o1⟩,⟨l3,h3.stay k.stay,o3⟩,c5,(s6.ts k).mono hN,(s9.ts k).mono hN⟩
theorem ET.ones{N C:Nat}{v1 v3 v6 v9:Value}{x2 x4:Int}{x5:ByteArray}(h:ET b M w N C v1 x2 v3 x4 x5 v6 v9):v1.oneCell'=true∧v3.oneCell'=true∧v6.oneCell'=true∧v9.oneCell'=true:=by
 obtain⟨⟨l1,h1,o1⟩,⟨l3,h3,o3⟩,c5,s6,s9⟩:=h
 exact⟨h1.one,h3.one,s6.one,s9.one⟩
structure nC where
 g:Nat
 cs:List Value
 T:Nat
abbrev nD:=(Nat→Nat→Prop)→World→Prop
def Mon(b:Nat)(G:nD):Prop:=∀X M w M' w',TS b X M w M' w'→G M w→G M' w'
theorem Mon.top(b:Nat):Mon b (fun _ _=>True):=fun _ _ _ _ _ _ _=>trivial
theorem Mon.and{G H:nD}(h:Mon b G)(k:Mon b H):Mon b (fun M w=>G M w∧H M w):=fun X M w M' w' t g=>⟨h X M w M' w' t g.1,k X M w M' w' t g.2⟩
theorem Mon.fr(v:Value)(l:List bf):Mon b (fun _ w=>FR b w v l):=fun _ _ _ _ _ t h=>h.stay t.stay
theorem Mon.st(v2:Value)(x3:ByteArray)(x6:Int)(v7:Value)(x8:ByteArray):Mon b (fun _ w=>ST b w v2 x3 x6 v7 x8):=fun _ _ _ _ _ t h=>h.stay t.stay
theorem Mon.et(N C:Nat)(v1:Value)(x2:Int)(v3:Value)(x4:Int)(x5:ByteArray)(v6 v9:Value):Mon b (fun M w=>ET b M w N C v1 x2 v3 x4 x5 v6 v9):=fun _ _ _ _ _ t h=>h.ts t (Nat.le_refl _)
theorem Mon.sl(T N:Nat)(v:Value):Mon b (fun M w=>SL M w T v N):=fun _ _ _ _ _ t h=>h.ts t
structure LW(b:Nat)(X:Nat→Prop)(M0:Nat→Nat→Prop)(w0:World)(L:List nC)(G:nD)(M:Nat→Nat→Prop)(w:World):Prop where
 ts:TS b X M0 w0 M w
 nd:(L.map nC.g).Nodup
 bx:∀x∈L,w.heap[x.g]?=some (.cells x.cs.toArray x.T (0,0))∧x.T≠89∧(∀n,¬M x.g n)∧(X x.g∨w0.heap.size≤x.g)
 g:G M w
 gm:Mon b G
variable {L:List nC} {G H:nD}
theorem LW.start(h:TW b M w)(g:G M w)(gm:Mon b G):LW b X M w [] G M w:=⟨.refl h,List.nodup_nil,fun _ h=>(by cases h),g,gm⟩
theorem LW.at(h:LW b X M0 w0 L G M w)(i:Nat){g T:Nat}{cs:List Value}(e:L[i]?=some ⟨g,cs,T⟩):w.heap[g]?=some (.cells cs.toArray T (0,0)):=(h.bx _ (List.mem_of_getElem? e)).1
theorem LW.fact(h:LW b X M0 w0 L G M w)(k:H M w)(km:Mon b H):LW b X M0 w0 L (fun M w=>G M w∧H M w) M w:=⟨h.ts,h.nd,h.bx,⟨h.g,k⟩,h.gm.and km⟩
theorem LW.call(h:LW b X M0 w0 L G M w)(k:TS b (fun _=>False) M w M' w'):LW b X M0 w0 L G M' w' where
 ts:=h.ts.trans k (fun _ h=>h.elim)
 nd:=h.nd
 bx:=fun x hx=>by
  obtain⟨h1,h2,h3,h4⟩:=h.bx x hx
  exact⟨(k.keep x.g (gJ h1) (fun h=>h) h3).trans h1,h2,fun n hn=>(k.new _ n hn).elim (fun⟨m,hm⟩=>h3 m hm) (fun h5=>Nat.not_lt.2 h5 (gJ h1)),h4⟩
 g:=h.gm _ _ _ _ _ k h.g
 gm:=h.gm
theorem LW.quiet(h:LW b X M0 w0 L G M w)(hb:Below w.heap.size w w'):LW b X M0 w0 L G M w':=h.call (.below1 h.ts.tw hb)
theorem LW.push(h:LW b X M0 w0 L G M w){g T:Nat}{cs:List Value}(hg:g=w.heap.size)(e:w'.heap[g]?=some (.cells cs.toArray T (0,0)))(hb:Below w.heap.size w w')(hT:T≠89):LW b X M0 w0 (⟨g,cs,T⟩::L) G M w' where
 ts:=(h.quiet hb).ts
 nd:=by
  rw[List.map_cons,List.nodup_cons]
  refine⟨fun hm=>?_,h.nd⟩
  obtain⟨x,hx,ex⟩:=List.mem_map.1 hm
  have:=gJ (h.bx x hx).1
  simp only at ex
  omega
 bx:=fun x hx=>by
  rcases List.mem_cons.1 hx with rfl|hx
  ·exact⟨e,hT,fun n hn=>by have:=h.ts.tw.lt hn;simp only at this;omega,.inr (by simp only;rw[hg];exact h.ts.size)⟩
  ·exact(h.quiet hb).bx x hx
 g:=(h.quiet hb).g
 gm:=h.gm
theorem LW.upd(h:LW b X M0 w0 L G M w)(i:Nat){g T:Nat}{cs cs':List Value}(ei:L[i]?=some ⟨g,cs,T⟩)(e:w'.heap[g]?=some (.cells cs'.toArray T (0,0)))(hk:ax w w' g none)(hb:Below 0 w w'):LW b X M0 w0 (L.set i ⟨g,cs',T⟩) G M w':=by
 obtain⟨h1,h2,h3,h4⟩:=h.bx _ (List.mem_of_getElem? ei)
 have hi:i<L.length:=(List.getElem?_eq_some_iff.1 ei).1
 have hts:=TS.box h.ts.tw hk hb h3 (fun cs he=>by rw[h1]at he;injection he with he;injection he with _ he;exact h2 he)
 refine⟨h.ts.trans hts (fun k e=>e▸h4),?_,fun x hx=>?_,h.gm _ _ _ _ _ hts h.g,h.gm⟩
 ·have:(L.set i ⟨g,cs',T⟩).map nC.g=L.map nC.g:=by
   rw[List.map_set]
   refine List.ext_getElem? fun j=>?_
   by_cases hj:i=j
   ·subst hj
    rw[List.getElem?_set_self (by simpa using hi),List.getElem?_map,ei];rfl
   ·rw[List.getElem?_set_ne hj]
  rw[this];exact h.nd
 ·obtain⟨j,hj⟩:=List.mem_iff_getElem?.1 hx
  by_cases hij:i=j
  ·subst hij
   rw[List.getElem?_set_self hi]at hj
   obtain rfl:=Option.some.inj hj
   exact⟨e,h2,h3,h4⟩
  ·rw[List.getElem?_set_ne hij]at hj
   have hm:=List.mem_of_getElem? hj
   obtain⟨g1,g2,g3,g4⟩:=h.bx x hm
   refine⟨(hk.2 x.g (gJ g1) (fun eg=>?_) (by simp)).trans g1,g2,g3,g4⟩
   have hp:=List.pairwise_iff_getElem.1 h.nd
   have hi':i<(L.map nC.g).length:=by simpa using hi
   have hjl:j<L.length:=(List.getElem?_eq_some_iff.1 hj).1
   have hj':j<(L.map nC.g).length:=by simpa using hjl
   have ea:(L.map nC.g)[i]=g:=by rw[List.getElem_map];rw[(List.getElem?_eq_some_iff.1 ei).2]
   have eb:(L.map nC.g)[j]=g:=by rw[List.getElem_map];rw[(List.getElem?_eq_some_iff.1 hj).2];exact eg
   rcases Nat.lt_or_gt_of_ne hij with hlt|hlt
   ·exact hp i j hi' hj' hlt (ea.trans eb.symm)
   ·exact hp j i hj' hi' hlt (eb.trans ea.symm)
theorem LW.drop{x:nC}(h:LW b X M0 w0 (x::L) G M w):LW b X M0 w0 L G M w:=⟨h.ts,(List.nodup_cons.1 h.nd).2,fun y hy=>h.bx y (List.mem_cons_of_mem _ hy),h.g,h.gm⟩
theorem LW.less(h:LW b X M0 w0 L G M w)(k:H M w)(km:Mon b H):LW b X M0 w0 L H M w:=⟨h.ts,h.nd,h.bx,k,km⟩
end
theorem a2j(vs:List Value):∀(j:Nat)(c:List Value),j+vs.length≤c.length→(c.take j++vs++c.drop (j+vs.length)).length=c.length:=by
 intro j c h
 simp only[List.length_append,List.length_take,List.length_drop]
 omega
theorem uY{g T:Nat}(vs:List Value):∀(j:Nat)(W:World)(c:List Value),W.heap[g]?=some (.cells c.toArray T (0,0))→j+vs.length≤c.length→(W.setCells g j vs).heap[g]?=some (.cells (c.take j++vs++c.drop (j+vs.length)).toArray T (0,0)):=by
 induction vs with
 |nil=>intro j W c h _;simpa [World.setCells]using h
 |cons v r ih=>
  intro j W c h hl
  simp only[List.length_cons]at hl
  have h1:(W.setCell ⟨g,j,none⟩ v).heap[g]?=some (.cells (c.set j v).toArray T (0,0)):=TJ h j v (by simp)
  have h2:=ih (j+1) _ (c.set j v) h1 (by rw[List.length_set];omega)
  have e:(c.set j v).take (j+1)++r++(c.set j v).drop (j+1+r.length)=c.take j++(v::r)++c.drop (j+(r.length+1)):=by
   rw[List.take_set,List.drop_set_of_lt (by omega)]
   have:(c.take (j+1)).set j v=c.take j++[v]:=by
    have hlen:(c.take j).length=j:=by rw[List.length_take];omega
    rw[List.take_succ_eq_append_getElem (by omega),List.set_append,if_neg (by omega),hlen,Nat.sub_self]
    rfl
   rw[this]
   simp[Nat.add_comm,Nat.add_left_comm]
  rw[e]at h2
  exact h2
theorem rz{g:Nat}(vs:List Value):∀(j:Nat)(V W:World),ax V W g none→ax V (W.setCells g j vs) g none:=by
 induction vs with
 |nil=>intro j V W h;exact h
 |cons v r ih=>intro j V W h;exact ih (j+1) V _ (ax.set_ h j v)
theorem sV{g:Nat}(vs:List Value):∀(j n:Nat)(V W:World),Below n V W→n≤g→Below n V (W.setCells g j vs):=by
 induction vs with
 |nil=>intro j n V W h _;exact h
 |cons v r ih=>intro j n V W h hn;exact ih (j+1) n V _ (Below.setCell h hn v) hn
section
variable {P:Program}
theorem qd(w:World)(b o:Nat)(ty:TypeId)(v:Value)(d:TypeDesc)(hc:w.cell? ⟨b,o,none⟩=some v)(hu:P.underlying ty=some d)(hd:d.isRow=false):(loadVar ty ⟨b,o,none⟩).run P w= .ok v w:=by
 have hagg:(isAgg ty).run P w= .ok false w:=by
  unfold isAgg
  rw[Sem.run_bind,run_underlying hu w]
  cases d<;>simp_all [TypeDesc.isRow]
 simp[loadVar,Sem.run_bind,hagg,hc]
theorem uw(w:World)(b o:Nat)(ty:TypeId)(u:Value)(vs:List Value)(hv:u.cells.toList=vs)(ht:w.there b o vs.length)(hi:(P.info? ty).map (·.size)=some vs.length)(h1:∀v∈vs,v.oneCell'=true):
 (storeVar ty ⟨b,o,none⟩ u).run P w= .ok () (w.setCells b o vs):=by
 have:=run_storeCells_cells (P:=P) b o vs 0 w (fun j hj=>by simpa using(ht j hj).1) (fun j hj=>by simpa using(ht j hj).2) h1
 cases hq:P.info? ty with
 |none=>simp[hq]at hi
 |some i=>
  have hs:u.cells.size=i.size:=by rw[←Array.length_toList,hv];simp[hq]at hi;omega
  simp only[Nat.add_zero]at this
  simp[storeVar,sizeOf,typeInfo,hq,hs,hv,this]
end
section
variable {P:Program} {ops:Array Oper} {rest:List Oper} {o:Oper} {a:Act} {Q:Exit→Act→World→Prop} {W:World}
theorem vH{ty:TypeId}{x:Operand}{b q:Nat}{v:Value}{d:TypeDesc}(hgd:o.guard=none)(ho:o.op= .load ty x)(hx:a.eval x= .pointer (some ⟨b,q,none⟩))(hc:W.cell? ⟨b,q,none⟩=some v)(hu:P.underlying ty=some d)(hd:d.isRow=false)
 (h:wpList P ops Q rest (a.put o.dst v) W):wpList P ops Q (o::rest) a W:=
 wpList_plain hgd fun K hK=>by
  unfold Oper.wp execOp
  simp only[ho,hx,Instr.loadAt,Instr.sureAddr,Sem.run_bind,Sem.run_pure,Result.andThen_ok,qd W b q ty v d hc hu hd]
  exact hK _ _ h
theorem pI{ty:TypeId}{x y:Operand}{b q:Nat}{u:Value}{vs:List Value}(hgd:o.guard=none)(hn:o.dst=none)(ho:o.op= .store ty x y)(hx:a.eval x= .pointer (some ⟨b,q,none⟩))(hy:a.eval y=u)(hv:u.cells.toList=vs)(ht:W.there b q vs.length)
 (hi:(P.info? ty).map (·.size)=some vs.length)(h1:∀v∈vs,v.oneCell'=true)(h:wpList P ops Q rest a (W.setCells b q vs)):wpList P ops Q (o::rest) a W:=
 wpList_plain hgd fun K hK=>by
  unfold Oper.wp execOp
  simp only[ho,hx,hy,Instr.storeAt,Instr.sureAddr,Sem.run_bind,Sem.run_pure,Result.andThen_ok,uw W b q ty u vs hv ht hi h1]
  show K (a.put o.dst undef) _
  rw[hn]
  exact hK _ _ h
variable {b:Nat} {X:Nat→Prop} {M0 M:Nat→Nat→Prop} {w0:World} {L:List nC} {G:nD}
theorem lbx{N:Tmp}{t:TypeId}(HW:ah (LW b X M0 w0 L G M W))(cs:List Value)(h:∀g w1,ah (LW b X M0 w0 (⟨g,cs,t⟩::L) G M w1)→wpList P ops Q rest (a.put o.dst (.pointer (some ⟨g,0,none⟩))) w1)
 (hd:o.dst=some N:=by rfl)(hgd:o.guard=none:=by rfl)(hT:t≠89:=by decide)
 (hr:(execOp a.eval o).run P W= .ok (.value (.pointer (some ⟨W.heap.size,0,none⟩))) (W.alloc (.cells cs.toArray t (0,0))):=by first|(go_simp;done)|(go_simp;rfl)):wpList P ops Q (o::rest) a W:=
 Ie hgd hd hr fun g hg w1 he hb=>h g w1 ⟨HW.out.push hg he hb hT⟩
theorem qi{ty:TypeId}{x:Operand}{d:TypeDesc}{g T:Nat}{c0:List Value}(HW:ah (LW b X M0 w0 L G M W))(i j:Nat)(cs:List Value)(hu:P.underlying ty=some d)(h:wpList P ops Q rest (a.put o.dst (.agg cs.toArray)) W)
 (ei:L[i]?=some ⟨g,c0,T⟩:=by rfl)(he:(c0.drop j).take cs.length=cs:=by rfl)(hg:o.guard=none:=by rfl)(ho:o.op= .load ty x:=by rfl)(hx:a.eval x= .pointer (some ⟨g,j,none⟩):=by rfl)(hd:d.isRow=true:=by rfl)(hi:(P.info? ty).map (·.size)=some cs.length:=by kernel_rfl):wpList P ops Q (o::rest) a W:=
 wpList_load_mid hg ty x ho g j hx cs d (fun q v hq=>by
  rw[ak (HW.out.at i ei)]
  have:c0[j+q]?=some v:=by
   rw[←he,List.getElem?_take]at hq
   split at hq
   ·rwa[List.getElem?_drop]at hq
   ·cases hq
  simpa using this) hu hd hi h
theorem lls{ty:TypeId}{x:Operand}{d:TypeDesc}{g T:Nat}{c0:List Value}(HW:ah (LW b X M0 w0 L G M W))(i j:Nat)(v:Value)(hu:P.underlying ty=some d)(h:wpList P ops Q rest (a.put o.dst v) W)
 (ei:L[i]?=some ⟨g,c0,T⟩:=by rfl)(he:c0[j]?=some v:=by rfl)(hg:o.guard=none:=by rfl)(ho:o.op= .load ty x:=by rfl)(hx:a.eval x= .pointer (some ⟨g,j,none⟩):=by rfl)(hd:d.isRow=false:=by rfl):wpList P ops Q (o::rest) a W:=
 vH hg ho hx (by rw[ak (HW.out.at i ei)];simpa using he) hu hd h
theorem LW.cell{g T:Nat}{c0:List Value}{v:Value}(HW:LW b X M0 w0 L G M W)(i j:Nat)(ei:L[i]?=some ⟨g,c0,T⟩:=by rfl)(he:c0[j]?=some v:=by rfl):W.cell? ⟨g,j,none⟩=some v:=by
 rw[ak (HW.at i ei)];simpa using he
theorem ow{ty:TypeId}{x y:Operand}{g T:Nat}{c0:List Value}{L':List nC}(HW:ah (LW b X M0 w0 L G M W))(i j:Nat)(u:Value)(c1:List Value)(vs:List Value)(h:∀w',ah (LW b X M0 w0 L' G M w')→wpList P ops Q rest a w')(h1:∀v∈vs,v.oneCell'=true)
 (ei:L[i]?=some ⟨g,c0,T⟩:=by rfl)(he:c0.take j++vs++c0.drop (j+vs.length)=c1:=by rfl)(hl:decide (j+vs.length≤c0.length)=true:=by rfl)(hv:u.cells.toList=vs:=by rfl)(hg:o.guard=none:=by rfl)(hn:o.dst=none:=by rfl)(ho:o.op= .store ty x y:=by rfl)(hx:a.eval x= .pointer (some ⟨g,j,none⟩):=by rfl)(hy:a.eval y=u:=by rfl)(hi:(P.info? ty).map (·.size)=some vs.length:=by kernel_rfl)(hL:L.set i ⟨g,c1,T⟩=L':=by(simp only[List.set_cons_zero,List.set_cons_succ];rfl)):wpList P ops Q (o::rest) a W:=by
 subst hL
 have hb:=HW.out.at i ei
 have hl':=of_decide_eq_true hl
 refine pI hg hn ho hx hy hv (fun q hq=>⟨?_,aj hb _⟩) hi h1 (h _ ⟨HW.out.upd i ei (by rw[←he];exact uY vs j W c0 hb hl') (rz vs j W W (ax.refl W g none)) (sV vs j 0 W W (Below.refl _ _) (Nat.zero_le _))⟩)
 rw[ak hb]
 simp only[List.getElem?_toArray]
 rw[List.getElem?_eq_getElem (by omega)]
 rfl
theorem Ej{cs:Array Value}{i m:Nat}{es:List Value}(h:seg cs i m=es){q:Nat}{v:Value}(hq:es[q]?=some v):cs[i*m+q]?=some v:=by
 subst h
 unfold seg at hq
 rw[List.getElem?_take]at hq
 split at hq
 ·rw[List.getElem?_drop]at hq
  simpa using hq
 ·cases hq
theorem Yg{k i m T:Nat}{cs:Array Value}{es:List Value}(e:W.heap[k]?=some (.cells cs T (0,0)))(h:seg cs i m=es):W.rangeAt k (i*m) es:=fun q v hq=>by
 rw[ak e];exact Ej h hq
theorem LW.elem{T k n i:Nat}(HW:LW b X M0 w0 L G M W)(hM:M k n)(hT:∃cs,W.heap[k]?=some (.cells cs T (0,0)))(hi:i<n):∃cs es,W.heap[k]?=some (.cells cs T (0,0))∧seg cs i (wide T)=es∧Elem b W T es∧W.rangeAt k (i*wide T) es∧(i+1)*wide T≤cs.size:=by
 obtain⟨_,T',cs,e,ht,hs,he⟩:=HW.ts.tw k n hM
 obtain⟨cs',e'⟩:=hT
 have:T'=T:=by rw[e]at e';injection e' with e';injection e' with _ e'
 subst this
 exact⟨cs,_,e,rfl,he i hi,Yg e rfl,Nat.le_trans (Nat.mul_le_mul_right _ hi) hs⟩
theorem Lr(c:List Value)(i m j:Nat)(vs:List Value)(hj:j+vs.length≤m)(hl:(i+1)*m≤c.length):seg (c.take (i*m+j)++vs++c.drop (i*m+j+vs.length)).toArray i m=((c.drop (i*m)).take m).take j++vs++((c.drop (i*m)).take m).drop (j+vs.length):=by
 have hm:(i+1)*m=i*m+m:=by rw[Nat.add_mul,Nat.one_mul]
 apply List.ext_getElem?
 intro q
 unfold seg
 simp only[List.getElem?_take,List.getElem?_drop,List.getElem?_append,List.length_append,List.length_take,List.length_drop,List.toList_toArray]
 by_cases h1:q<m
 ·simp only[h1,if_true]
  by_cases h2:q<j
  ·have e1:i*m+q<min (i*m+j) c.length+vs.length:=by omega
   have e2:i*m+q<min (i*m+j) c.length:=by omega
   have e3:q<min j (min m (c.length-i*m))+vs.length:=by omega
   have e4:q<min j (min m (c.length-i*m)):=by omega
   have e5:i*m+q<i*m+j:=by omega
   simp only[e1,e2,e3,e4,e5,h1,h2,if_true]
  ·by_cases h3:q<j+vs.length
   ·have e1:i*m+q<min (i*m+j) c.length+vs.length:=by omega
    have e2:¬i*m+q<min (i*m+j) c.length:=by omega
    have e3:q<min j (min m (c.length-i*m))+vs.length:=by omega
    have e4:¬q<min j (min m (c.length-i*m)):=by omega
    simp only[e1,e2,e3,e4,if_true,if_false]
    congr 1;omega
   ·have e1:¬i*m+q<min (i*m+j) c.length+vs.length:=by omega
    have e3:¬q<min j (min m (c.length-i*m))+vs.length:=by omega
    have e5:j+vs.length+(q-(min j (min m (c.length-i*m))+vs.length))<m:=by omega
    simp only[e1,e3,e5,if_true,if_false]
    congr 1;omega
 ·have e3:¬q<min j (min m (c.length-i*m))+vs.length:=by omega
  have e5:¬j+vs.length+(q-(min j (min m (c.length-i*m))+vs.length))<m:=by omega
  simp only[h1,e3,e5,if_false]
theorem Q6(c:List Value)(i i' m j:Nat)(vs:List Value)(hj:j+vs.length≤m)(hne:i'≠i)(hl:(i+1)*m≤c.length):seg (c.take (i*m+j)++vs++c.drop (i*m+j+vs.length)).toArray i' m=seg c.toArray i' m:=by
 have hm:(i+1)*m=i*m+m:=by rw[Nat.add_mul,Nat.one_mul]
 apply List.ext_getElem?
 intro q
 unfold seg
 simp only[List.getElem?_take,List.getElem?_drop,List.getElem?_append,List.length_append,List.length_take,List.toList_toArray]
 by_cases h1:q<m
 ·simp only[h1,if_true]
  rcases Nat.lt_or_gt_of_ne hne with h|h
  ·have:(i'+1)*m≤i*m:=Nat.mul_le_mul_right _ h
   rw[Nat.add_mul,Nat.one_mul]at this
   have e1:i'*m+q<min (i*m+j) c.length+vs.length:=by omega
   have e2:i'*m+q<min (i*m+j) c.length:=by omega
   have e3:i'*m+q<i*m+j:=by omega
   simp only[e1,e2,e3,if_true]
  ·have:(i+1)*m≤i'*m:=Nat.mul_le_mul_right _ h
   have e1:¬i'*m+q<min (i*m+j) c.length+vs.length:=by omega
   simp only[e1,if_false]
   congr 1;omega
 ·simp only[h1,if_false]
theorem LW.put{T k n i j:Nat}{es:List Value}{cs:Array Value}{vs es':List Value}(HW:LW b X M0 w0 L G M W)(hM:M k n)(hT:W.heap[k]?=some (.cells cs T (0,0)))(hi:i<n)(hs:seg cs i (wide T)=es)(hsz:(i+1)*wide T≤cs.size)
 (hj:j+vs.length≤wide T)(he':es.take j++vs++es.drop (j+vs.length)=es')(hE:Elem b W T es'):LW b X M0 w0 L G M (W.setCells k (i*wide T+j) vs):=by
 have hb:(W.setCells k (i*wide T+j) vs).heap[k]?=some (.cells (cs.toList.take (i*wide T+j)++vs++cs.toList.drop (i*wide T+j+vs.length)).toArray T (0,0)):=uY vs _ W cs.toList (by simpa using hT) (by rw[Nat.add_mul,Nat.one_mul]at hsz;simp only[Array.length_toList];omega)
 have hk:=rz vs (i*wide T+j) W W (ax.refl W k none)
 have h0:=sV (g:=k) vs (i*wide T+j) 0 W W (Below.refl _ _) (Nat.zero_le _)
 obtain⟨_,T',cs1,e1,ht,_⟩:=HW.ts.tw k n hM
 have hT':T'=T:=by rw[e1]at hT;injection hT with hT;injection hT with _ hT
 subst hT'
 have hst:uX W (W.setCells k (i*wide T'+j) vs):=fun q ci hc=>hk.2 q (gJ hc) (fun ei=>by subst ei;rw[hT]at hc;injection hc with hc;injection hc with _ hc;exact ht hc) (by simp)
 have hsz':(i+1)*wide T'≤cs.toList.length:=by simpa using hsz
 refine HW.call (TS.put (X:=fun _=>False) HW.ts.tw hM hT h0 hk hb (by simp only[List.size_toArray,a2j vs _ cs.toList (show i*wide T'+j+vs.length≤cs.toList.length by rw[Nat.add_mul,Nat.one_mul]at hsz';omega),Array.length_toList]) (fun m hm i' hi'=>?_))
 by_cases hii:i'=i
 ·subst hii
  rw[Lr cs.toList i' (wide T') j vs hj hsz']
  have:(cs.toList.drop (i'*wide T')).take (wide T')=es:=hs
  rw[this,he']
  exact hE.stay hst
 ·rw[Q6 cs.toList i i' (wide T') j vs hj hii hsz']
  obtain⟨_,T2,cs2,e2,_,_,h2⟩:=HW.ts.tw k m hm
  have:cs2=cs∧T2=T':=by rw[hT]at e2;injection e2 with e2;injection e2 with e3 e4;exact⟨e3.symm,e4.symm⟩
  obtain⟨rfl,rfl⟩:=this
  simpa using(h2 i' hi').stay hst
end
end Go.Proofs.YtokblgdgpnakpaaGreat.PFnEndLess
