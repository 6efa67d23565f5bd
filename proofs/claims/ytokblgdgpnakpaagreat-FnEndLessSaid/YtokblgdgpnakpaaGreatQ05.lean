/- FnEndLess holds: part 5 of a proof that the given program meets it (printed texts and walks of our own, made short by a program). No condition. -/
import Derived.Test.YtokblgdgpnakpaaGreatQ04
set_option linter.unusedVariables false
set_option linter.unusedSimpArgs false
set_option maxHeartbeats 8000000
set_option maxRecDepth 100000
namespace Go.Proofs.YtokblgdgpnakpaaGreat.PFnEndLess
open Go.RowKit Go.Proofs.YtokblgdgpnakpaaGreatW.PrintWords Go.Proofs.YtokblgdgpnakpaaGreatW.PrintLast Go.Proofs.YtokblgdgpnakpaaGreatW.PrintMore Go.Proofs.YtokblgdgpnakpaaGreat.Lm
attribute [local go_sem] bF bD cZ d9 aY aX bH bI
def dz.l0:Nat→List (bg)→ByteArray→Int→List (bg)→Int→Option ((List (bg))×Int×ByteArray)
 |0,_,_,_,_,_=>none
 |k+1,x1,x6,x7,VO,VP=>if x7<(x1.length:Int)then(if 0≤x7 then((bY.f k VO VP ((aT x1 x7).f0) ((aT x1 x7).f1) ((aT x1 x7).f2)).bind fun VQ=>(if x6.size+VQ.2.2.size≤9223372036854775807 then(dz.l0 k x1 (x6++VQ.2.2) (wrap64 (x7+1)) VQ.1 VQ.2.1)else(none)))else(none))else(some (VO,VP,x6))
def dz.f(k:Nat)(aH:List (bg))(aA:Int)(l1:List (bg)):Option ((List (bg))×Int×ByteArray):=dz.l0 k l1 (⟨#[]⟩:ByteArray) 0 aH aA
theorem dz.mono_l:∀k,(∀y0 y1 y2 y3 y4,gV (dz.l0 k y0 y1 y2 y3 y4) (dz.l0 (k+1) y0 y1 y2 y3 y4))
 |0=>fun _ _ _ _ _ r h=>by simp[dz.l0]at h
 |k+1=>by
  have ng:=dz.mono_l k
  ·intro y0 y1 y2 y3 y4
   unfold dz.l0
   have m0:=@bY.mono
   exact zm
theorem dz.mono:∀a0 a1 a2 k,gV (dz.f k a0 a1 a2) (dz.f (k+1) a0 a1 a2):=by
 intro a0 a1 a2 k
 have ng:=dz.mono_l k
 unfold dz.f
 have m0:=@bY.mono
 exact zm
def dz.T5:Bool×List (List Nat×List Nat):=(true,[([],[]),([],[]),([],[]),([1,2],[1,2]),([3],[3]),([0,4],[0,4]),([5],[5]),([6],[6]),([6],[6]),([],[]),([9,7,5,0,1,2,3,4,5,6,7,9],[7,9]),([8,10,0,1,2,3,4,5,6,7,8,9,10],[8])])
def dz.B5:List Nat:=[0,0,0,6,14,31,63,127,127,0,767,2047]
theorem dz.tab5:jm .any (opsOf Tryz.f96 5)=dz.T5:=by kernel_rfl
theorem dz.bits5:fQ dz.T5.2 dz.B5=true:=by kernel_rfl
theorem dz.calls(k:Nat)(ji:Nat→Prop)(kW:Value)(aH:List (bg))(aA:Int)(A1:Option Addr)(c1:Nat)(l1:List (bg))(r1:List (bg))(r2:Int)(r3:ByteArray)(w0 w:World)(hB:Below w0.heap.size w0 w)(EZ:Kd.R iF 89 w w0.heap.size ji kW aH)(hr1:∀W_,Kept w W_ (fun _=>False)→Kd.C iF W_ A1 l1.length l1)(hc1:l1.length≤c1)(h:dz.f k aH aA l1=some (r1,r2,r3)):
 Calls Tryz.prog 96 #[.agg #[kW,.int .i64 aA],.slice A1 l1.length c1] w fun e w'=>∃vk:Value,e= .returned (.tuple #[.agg #[vk,.int .i64 r2],.string r3])∧Kd.R iF 89 w' w0.heap.size (fun k_=>(ji k_∨w.heap.size≤k_)) vk r1∧Below w0.heap.size w0 w'∧Kept w w' (fun _=>False):=by
 have zB:=Tryz.underlying25
 have rZ:=Tryz.underlying89
 have bC:=ah.mk (show Kd.R iF 89 w w0.heap.size (fun k_=>(ji k_∨w.heap.size≤k_)) kW aH from Kd.R_mono EZ (fun k_ hk=>(.inl hk)))
 have HR1:=ah.mk hr1
 have HC1:=ah.mk hc1
 clear hr1 hc1
 have HK:=ah.mk (Kept.refl w (fun _=>False))
 have HW0:=ah.mk hB.size
 have HB:=ah.mk hB
 clear hB
 have H:(dz.l0 k l1 (⟨#[]⟩:ByteArray) 0 aH aA)=some (r1,r2,r3):=h
 clear h
 have H':=ah.mk H
 clear H
 obtain⟨Ao3,co3,eo3⟩:=Kd.R_slice bC.out
 subst eo3
 go_enter Tryz.func96,Tryz.ntmps96
 go_wp2_with (first|((with_reducible refine gd 2 rfl ?_);refine bx (N:=2) (cs:=#[.slice Ao3 aH.length co3,.int .i64 aA]) (t:=25) ?_;intro nU hg w4 hbox hb;replace bC:=ah.mk (Kd.R_below (zr bC) hb);have iV:=ah.mk (hbox);have HY:=ah.mk ((by rw[hg];exact(kz (w:=w)).1:w.heap.size≤nU));replace HK:=kq hb;have aNe:=ah.mk ((by rw[hg];exact(aJ (zb HB)):w0.heap.size≤nU));replace HB:=ah.mk (ai (zb HB) hb);clear hb hbox hg)|((with_reducible refine gd 4 rfl ?_);refine bx (N:=4) (cs:=#[.slice none 0 0,.int .i64 0]) (t:=25) ?_;intro rQ hg w5 hbox hb;replace bC:=ah.mk (Kd.R_below (zr bC) hb);have l5:=ah.mk (hbox);have HZ:=ah.mk ((by rw[hg];exact(kz (w:=w)).1:w.heap.size≤rQ));replace HK:=kq hb;have aNf:=ah.mk ((by rw[hg];exact(aJ (zb HB)):w0.heap.size≤rQ));replace HB:=ah.mk (ai (zb HB) hb);obtain⟨I4,I5⟩:=nb iV hg;replace iV:=kb iV hb;clear hb hbox hg))
 go_loopg [6,7] k (fun kq v6 v7 w'=>∃(iP:ByteArray)(fD:Int)(iI:List (bg))(jK:Int)(Kn:Value),v6= .string iP∧v7= .int .i64 fD∧ah (dz.l0 kq l1 iP fD iI jK=some (r1,r2,r3))∧ah (kq≤k)∧ah (Kd.R iF 89 w' w0.heap.size (fun k_=>(ji k_∨w.heap.size≤k_)) Kn iI)∧ah (w'.heap[nU]?=some (.cells #[Kn,.int .i64 jK] 25 (0,0)))∧ah (w'.heap[rQ]?=some (.cells #[(.slice none 0 0),.int .i64 0] 25 (0,0)))∧ah (Kept w w' (fun _=>False))∧ah (Below w0.heap.size w0 w'))
 case atStart=>exact⟨((⟨#[]⟩:ByteArray)),(0),(aH),(aA),(.slice Ao3 aH.length co3),zs,zs,H',⟨Nat.le_refl _⟩,⟨by exact zr bC⟩,⟨by exact zk iV⟩,⟨by exact zk l5⟩,⟨kz⟩,⟨zb HB⟩⟩
 case round=>
  clear H'
  try clear c1
  try clear p2
  obtain⟨iP,fD,iI,jK,Kn,rfl,rfl,HA,jc,HO_462000,iV,l5,HK,HB⟩:=hrel
  cases gk with
  |zero=>exact absurd HA.out (by simp[dz.l0])
  |succ k1=>
   have H:=HA.out
   clear HA
   simp only[dz.l0]at H
   replace H:=sp H
   rcases H with⟨c6,H⟩|⟨c6,H⟩
   ·skip
    have c6b0:=decide_eq_true c6
    clear c6
    by_cases c7:0≤fD
    ·rw[if_pos c7]at H
     have c7b0:=decide_eq_true c7
     clear c7
     obtain⟨⟨XL,XM,P7⟩,A8,H⟩:=ob H
     (try dsimp only at H)
     by_cases c9:iP.size+P7.size≤9223372036854775807
     ·rw[if_pos c9]at H
      have c9b0:=eq_true c9
      have c9b1:=decide_eq_true c9
      try have c9b2:(9223372036854775807<iP.size+P7.size)=False:=eq_false (Nat.not_lt.2 c9)
      have H':=ah.mk H
      clear H
      obtain⟨BD,yG,Xu⟩:=Kd.R_slice HO_462000.out
      subst Xu
      try go_wp2
      replace HO_462000:=ah.mk (Kd.R_drew HO_462000.out)
      replace iV:=ah.mk (dn iV.out)
      replace l5:=ah.mk (dn l5.out)
      replace HK:=ah.mk (Kept.drew HK.out)
      replace HB:=ah.mk (dG HB.out)
      have kX:0≤(fD:Int):=of_decide_eq_true za
      have kY:fD<(l1.length:Int):=of_decide_eq_true za
      obtain⟨qM,aDm,VR,VS,VT⟩:=eP (Kd.C_kept_now HR1.out HK.out) fD kX kY
      have ayw:=VT
      have ayx:=VS
      have ayy:=VR
      cases aDm
      replace kX:=eq_true kX
      replace kY:=eq_true kY
      refine tZ (n:=12) (S:=fun w'=>w'.cell? ⟨nU,0,none⟩=some (.slice BD iI.length yG)∧w'.cell? ⟨nU,1,none⟩=some (.int .i64 jK)∧w'.cell? (qM.add ((fD).toNat*3))=some (.string ((aT l1 fD).f0))∧w'.cell? ⟨(qM.add ((fD).toNat*3)).block,(qM.add ((fD).toNat*3)).off+1,none⟩=some (.string ((aT l1 fD).f1))∧w'.cell? ⟨(qM.add ((fD).toNat*3)).block,(qM.add ((fD).toNat*3)).off+2,none⟩=some (.bool ((aT l1 fD).f2))) (ds:=[]) #[false,false,false,false,false,false,false,false,false,false,false,false] (by kernel_rfl) rfl rfl ⟨(au iV.out 0).trans rfl,(au iV.out 1).trans rfl,(by first|(show World.cell? ?W1_ _=_;obtain⟨_,e_,qN,qO,qP⟩:=eP (HR1.out ?W1_ (by repeat(first|exact HK.out|apply Kept.alloc|apply Kept.drewN|apply Kept.drew|refine Kept.setCell ?_ (.inr dW.out) _|refine Kept.setCell ?_ (.inr dW.out) _))) fD (of_eq_true kX) (of_eq_true kY);cases e_;exact qN)|(obtain⟨_,e_,qN,qO,qP⟩:=eP (HR1.out _ (by repeat(first|exact HK.out|apply Kept.alloc|apply Kept.drewN|apply Kept.drew|refine Kept.setCell ?_ (.inr dW.out) _|refine Kept.setCell ?_ (.inr dW.out) _))) fD (of_eq_true kX) (of_eq_true kY);cases e_;exact qN)),(by first|(show World.cell? ?W2_ _=_;obtain⟨_,e_,qN,qO,qP⟩:=eP (HR1.out ?W2_ (by repeat(first|exact HK.out|apply Kept.alloc|apply Kept.drewN|apply Kept.drew|refine Kept.setCell ?_ (.inr dW.out) _|refine Kept.setCell ?_ (.inr dW.out) _))) fD (of_eq_true kX) (of_eq_true kY);cases e_;exact qO)|(obtain⟨_,e_,qN,qO,qP⟩:=eP (HR1.out _ (by repeat(first|exact HK.out|apply Kept.alloc|apply Kept.drewN|apply Kept.drew|refine Kept.setCell ?_ (.inr dW.out) _|refine Kept.setCell ?_ (.inr dW.out) _))) fD (of_eq_true kX) (of_eq_true kY);cases e_;exact qO)),(by first|(show World.cell? ?W3_ _=_;obtain⟨_,e_,qN,qO,qP⟩:=eP (HR1.out ?W3_ (by repeat(first|exact HK.out|apply Kept.alloc|apply Kept.drewN|apply Kept.drew|refine Kept.setCell ?_ (.inr dW.out) _|refine Kept.setCell ?_ (.inr dW.out) _))) fD (of_eq_true kX) (of_eq_true kY);cases e_;exact qP)|(obtain⟨_,e_,qN,qO,qP⟩:=eP (HR1.out _ (by repeat(first|exact HK.out|apply Kept.alloc|apply Kept.drewN|apply Kept.drew|refine Kept.setCell ?_ (.inr dW.out) _|refine Kept.setCell ?_ (.inr dW.out) _))) fD (of_eq_true kX) (of_eq_true kY);cases e_;exact qP))⟩ (fun hHeld=>?_);refine bR dz.tab5 dz.bits5 (fun HT_ HW_=>?_)
      generalize wr.drew=w11 at HO_462000 iV l5 HK HB VR VS VT hHeld ⊢
      refine pu 1 (some 18) (bm 12 2) rfl rfl ?_
      refine pu 2 (some 19) (bm 12 6) rfl rfl ?_
      refine pu 3 (some 20) (bm 12 14) rfl rfl ?_
      refine tk 0 (some 17) (bm 12 15) rfl rfl hHeld ?_
      refine tk 4 (some 21) (bm 12 31) rfl rfl hHeld ?_
      refine aaX (σ:=Value×Nat) 2 #[true,true,true,true,true,true,true,true,true,true,false,false] (fun s_=>[(22,.tuple #[.agg #[s_.1,.int .i64 XM],.string P7]),(8,.pointer (some ⟨s_.2,0,none⟩)),(16,.tuple #[.agg #[s_.1,.int .i64 XM],.string P7]),(23,.agg #[s_.1,.int .i64 XM]),(24,.string P7)]) (fun s_ w'=>(w'.cell? ⟨nU,0,none⟩=some (.slice BD iI.length yG)∧w'.cell? ⟨nU,1,none⟩=some (.int .i64 jK)∧w'.cell? (qM.add ((fD).toNat*3))=some (.string ((aT l1 fD).f0))∧w'.cell? ⟨(qM.add ((fD).toNat*3)).block,(qM.add ((fD).toNat*3)).off+1,none⟩=some (.string ((aT l1 fD).f1))∧w'.cell? ⟨(qM.add ((fD).toNat*3)).block,(qM.add ((fD).toNat*3)).off+2,none⟩=some (.bool ((aT l1 fD).f2)))∧(Kd.R iF 89 w' w0.heap.size (fun k_=>(ji k_∨w.heap.size≤k_)) s_.1 XL)∧(w'.heap[nU]?=some (.cells #[.slice BD iI.length yG,.int .i64 jK] 25 (0,0)))∧(w'.heap[rQ]?=some (.cells #[.slice none 0 0,.int .i64 0] 25 (0,0)))∧(w'.heap[s_.2]?=some (.cells #[.slice none 0 0,.int .i64 0] 25 (0,0)))∧(w.heap.size≤s_.2)∧(w0.heap.size≤s_.2)∧(nU≠s_.2)∧(s_.2≠nU)∧(rQ≠s_.2)∧(s_.2≠rQ)∧(Kept w w' (fun _=>False))∧(Below w0.heap.size w0 w')) ?_ ?_
      rotate_left
      ·intro hCont
       refine ady (i:=5) (j:=9) (Ni:=some 22) (Nj:=some 8) #[true,true,true,true,true,true,false,false,false,false,false,false] #[true,true,true,true,true,false,false,false,false,true,false,false] rfl rfl rfl rfl (QB HT_.out (by kernel_rfl)) (by decide) (by decide) (fun K hK=>?_) (fun K hK=>?_)
       ·skip
        refine gs Tryz.func98 #[.agg #[.slice BD iI.length yG,.int .i64 jK],.agg #[.string ((aT l1 fD).f0),.string ((aT l1 fD).f1),.bool ((aT l1 fD).f2)]] ?_
        with_reducible refine(bY.calls k1 (fun k_=>some k_=(.slice BD iI.length yG:Value).ownBlock) (.slice BD iI.length yG) iI jK ((aT l1 fD).f0) ((aT l1 fD).f1) ((aT l1 fD).f2) XL XM P7 w0 _ ?aN ?aQ A8.out).mono ?_
        (case aN=>exact zb HB)
        (case aQ=>exact Kd.R_tight rfl HO_462000.out)
        rintro e Xm ⟨a1C,rfl,ho0,hb,hkp⟩
        refine⟨_,rfl,?_⟩
        replace iV:=ah.mk (mR (zk iV) hkp (fun h_=>h_))
        replace l5:=ah.mk (mR (zk l5) hkp (fun h_=>h_))
        have CK:=ah.mk (Kd.R_mono (ok':=fun k_=>(ji k_∨w.heap.size≤k_)) ho0 (fun k_ Oq=>Or.elim Oq (fun hs_=>(HO_462000.out.1 k_ (hs_).symm)) (fun QW=>(.inr (Nat.le_trans (by first|exact HK.out.1|exact(show Kept w _ (fun _=>False)from by repeat(first|(with_reducible first|exact HK.out|apply Kept.alloc|apply Kept.drewN|apply Kept.drew|refine Kept.setCell ?_ (.inr HY.out) _|refine Kept.setCell ?_ (.inr HZ.out) _)|exact HK.out)).1) QW)))))
        replace HK:=ah.mk (Kept.then_ (S:=(fun _=>False)) (by repeat(first|(with_reducible first|exact HK.out|apply Kept.alloc|apply Kept.drewN|apply Kept.drew|refine Kept.setCell ?_ (.inr HY.out) _|refine Kept.setCell ?_ (.inr HZ.out) _)|exact HK.out)) hkp (fun _ h_=>h_.elim))
        replace HB:=ah.mk (hb)
        clear HO_462000
        (try clear hb)
        (try clear hkp)
        (try clear ho0)
        refine hK.out _ _ ⟨(au iV.out 0).trans rfl,(au iV.out 1).trans rfl,(by first|(show World.cell? ?W4_ _=_;obtain⟨_,e_,qN,qO,qP⟩:=eP (HR1.out ?W4_ (by repeat(first|exact HK.out|apply Kept.alloc|apply Kept.drewN|apply Kept.drew|refine Kept.setCell ?_ (.inr dW.out) _|refine Kept.setCell ?_ (.inr dW.out) _))) fD (of_eq_true kX) (of_eq_true kY);cases e_;exact qN)|(obtain⟨_,e_,qN,qO,qP⟩:=eP (HR1.out _ (by repeat(first|exact HK.out|apply Kept.alloc|apply Kept.drewN|apply Kept.drew|refine Kept.setCell ?_ (.inr dW.out) _|refine Kept.setCell ?_ (.inr dW.out) _))) fD (of_eq_true kX) (of_eq_true kY);cases e_;exact qN)),(by first|(show World.cell? ?W5_ _=_;obtain⟨_,e_,qN,qO,qP⟩:=eP (HR1.out ?W5_ (by repeat(first|exact HK.out|apply Kept.alloc|apply Kept.drewN|apply Kept.drew|refine Kept.setCell ?_ (.inr dW.out) _|refine Kept.setCell ?_ (.inr dW.out) _))) fD (of_eq_true kX) (of_eq_true kY);cases e_;exact qO)|(obtain⟨_,e_,qN,qO,qP⟩:=eP (HR1.out _ (by repeat(first|exact HK.out|apply Kept.alloc|apply Kept.drewN|apply Kept.drew|refine Kept.setCell ?_ (.inr dW.out) _|refine Kept.setCell ?_ (.inr dW.out) _))) fD (of_eq_true kX) (of_eq_true kY);cases e_;exact qO)),(by first|(show World.cell? ?W6_ _=_;obtain⟨_,e_,qN,qO,qP⟩:=eP (HR1.out ?W6_ (by repeat(first|exact HK.out|apply Kept.alloc|apply Kept.drewN|apply Kept.drew|refine Kept.setCell ?_ (.inr dW.out) _|refine Kept.setCell ?_ (.inr dW.out) _))) fD (of_eq_true kX) (of_eq_true kY);cases e_;exact qP)|(obtain⟨_,e_,qN,qO,qP⟩:=eP (HR1.out _ (by repeat(first|exact HK.out|apply Kept.alloc|apply Kept.drewN|apply Kept.drew|refine Kept.setCell ?_ (.inr dW.out) _|refine Kept.setCell ?_ (.inr dW.out) _))) fD (of_eq_true kX) (of_eq_true kY);cases e_;exact qP))⟩ (fun hHeld=>?_)
        clear hK K
        refine nm ?_
        refine pu 6 (some 16) (bm 12 127) rfl rfl ?_
        refine pu 7 (some 23) (bm 12 255) rfl rfl ?_
        refine pu 8 (some 24) (bm 12 511) rfl rfl ?_
        refine fV (i:=9) (N:=some 8) (bm 12 1023) rfl rfl (bL HT_.out (by kernel_rfl)) (by decide) (fun K hK=>?_)
        refine Ej ?hg (N:=8) ?hd (cs:=#[.slice none 0 0,.int .i64 0]) (t:=25) ?hr ?_;(case hd=>rfl);(case hg=>rfl);(case hr=>first|(go_simp;done)|(go_simp;rfl))
        intro jT hg w13 hbox hb
        replace CK:=ah.mk (Kd.R_below (zr CK) hb)
        have uV:=ah.mk (hbox)
        have dW:=ah.mk ((by rw[hg];exact(kz (w:=w)).1:w.heap.size≤jT))
        replace HK:=kq hb
        have VU:=ah.mk ((by rw[hg];exact(aJ (zb HB)):w0.heap.size≤jT))
        replace HB:=ah.mk (ai (zb HB) hb)
        have kH:=ah.mk ((by rw[hg];exact Nat.ne_of_lt (fZ (zk iV)):nU≠jT))
        have oJ:=ah.mk ((by rw[hg];exact Nat.ne_of_gt (fZ (zk iV)):jT≠nU))
        replace iV:=kb iV hb
        have oK:=ah.mk ((by rw[hg];exact Nat.ne_of_lt (fZ (zk l5)):rQ≠jT))
        have oL:=ah.mk ((by rw[hg];exact Nat.ne_of_gt (fZ (zk l5)):jT≠rQ))
        replace l5:=kb l5 hb
        clear hb hbox hg
        refine hK.out _ _ ⟨(au iV.out 0).trans rfl,(au iV.out 1).trans rfl,(by first|(show World.cell? ?W7_ _=_;obtain⟨_,e_,qN,qO,qP⟩:=eP (HR1.out ?W7_ (by repeat(first|exact HK.out|apply Kept.alloc|apply Kept.drewN|apply Kept.drew|refine Kept.setCell ?_ (.inr dW.out) _|refine Kept.setCell ?_ (.inr dW.out) _))) fD (of_eq_true kX) (of_eq_true kY);cases e_;exact qN)|(obtain⟨_,e_,qN,qO,qP⟩:=eP (HR1.out _ (by repeat(first|exact HK.out|apply Kept.alloc|apply Kept.drewN|apply Kept.drew|refine Kept.setCell ?_ (.inr dW.out) _|refine Kept.setCell ?_ (.inr dW.out) _))) fD (of_eq_true kX) (of_eq_true kY);cases e_;exact qN)),(by first|(show World.cell? ?W8_ _=_;obtain⟨_,e_,qN,qO,qP⟩:=eP (HR1.out ?W8_ (by repeat(first|exact HK.out|apply Kept.alloc|apply Kept.drewN|apply Kept.drew|refine Kept.setCell ?_ (.inr dW.out) _|refine Kept.setCell ?_ (.inr dW.out) _))) fD (of_eq_true kX) (of_eq_true kY);cases e_;exact qO)|(obtain⟨_,e_,qN,qO,qP⟩:=eP (HR1.out _ (by repeat(first|exact HK.out|apply Kept.alloc|apply Kept.drewN|apply Kept.drew|refine Kept.setCell ?_ (.inr dW.out) _|refine Kept.setCell ?_ (.inr dW.out) _))) fD (of_eq_true kX) (of_eq_true kY);cases e_;exact qO)),(by first|(show World.cell? ?W9_ _=_;obtain⟨_,e_,qN,qO,qP⟩:=eP (HR1.out ?W9_ (by repeat(first|exact HK.out|apply Kept.alloc|apply Kept.drewN|apply Kept.drew|refine Kept.setCell ?_ (.inr dW.out) _|refine Kept.setCell ?_ (.inr dW.out) _))) fD (of_eq_true kX) (of_eq_true kY);cases e_;exact qP)|(obtain⟨_,e_,qN,qO,qP⟩:=eP (HR1.out _ (by repeat(first|exact HK.out|apply Kept.alloc|apply Kept.drewN|apply Kept.drew|refine Kept.setCell ?_ (.inr dW.out) _|refine Kept.setCell ?_ (.inr dW.out) _))) fD (of_eq_true kX) (of_eq_true kY);cases e_;exact qP))⟩ (fun hHeld=>?_)
        clear hK K
        refine nm ?_
        exact yT (by simp only[rY,Act.put,s1,s2,s3]) (hCont (a1C,jT) _ ⟨hHeld,(zr CK),(zk iV),(zk l5),(zk uV),dW.out,VU.out,kH.out,oJ.out,oK.out,oL.out,(by repeat(first|(with_reducible first|exact HK.out|apply Kept.alloc|apply Kept.drewN|apply Kept.drew|refine Kept.setCell ?_ (.inr HY.out) _|refine Kept.setCell ?_ (.inr HZ.out) _|refine Kept.setCell ?_ (.inr dW.out) _)|exact HK.out)),(zb HB)⟩)
       ·skip
        refine Ej ?hg (N:=8) ?hd (cs:=#[.slice none 0 0,.int .i64 0]) (t:=25) ?hr ?_;(case hd=>rfl);(case hg=>rfl);(case hr=>first|(go_simp;done)|(go_simp;rfl))
        intro jT hg Xm hbox hb
        replace HO_462000:=ah.mk (Kd.R_below (zr HO_462000) hb)
        have uV:=ah.mk (hbox)
        have dW:=ah.mk ((by rw[hg];exact(kz (w:=w)).1:w.heap.size≤jT))
        replace HK:=kq hb
        have VU:=ah.mk ((by rw[hg];exact(aJ (zb HB)):w0.heap.size≤jT))
        replace HB:=ah.mk (ai (zb HB) hb)
        have kH:=ah.mk ((by rw[hg];exact Nat.ne_of_lt (fZ (zk iV)):nU≠jT))
        have oJ:=ah.mk ((by rw[hg];exact Nat.ne_of_gt (fZ (zk iV)):jT≠nU))
        replace iV:=kb iV hb
        have oK:=ah.mk ((by rw[hg];exact Nat.ne_of_lt (fZ (zk l5)):rQ≠jT))
        have oL:=ah.mk ((by rw[hg];exact Nat.ne_of_gt (fZ (zk l5)):jT≠rQ))
        replace l5:=kb l5 hb
        clear hb hbox hg
        refine hK.out _ _ ⟨(au iV.out 0).trans rfl,(au iV.out 1).trans rfl,(by first|(show World.cell? ?aDn _=_;obtain⟨_,e_,qN,qO,qP⟩:=eP (HR1.out ?aDn (by repeat(first|exact HK.out|apply Kept.alloc|apply Kept.drewN|apply Kept.drew|refine Kept.setCell ?_ (.inr dW.out) _|refine Kept.setCell ?_ (.inr dW.out) _))) fD (of_eq_true kX) (of_eq_true kY);cases e_;exact qN)|(obtain⟨_,e_,qN,qO,qP⟩:=eP (HR1.out _ (by repeat(first|exact HK.out|apply Kept.alloc|apply Kept.drewN|apply Kept.drew|refine Kept.setCell ?_ (.inr dW.out) _|refine Kept.setCell ?_ (.inr dW.out) _))) fD (of_eq_true kX) (of_eq_true kY);cases e_;exact qN)),(by first|(show World.cell? ?aDo _=_;obtain⟨_,e_,qN,qO,qP⟩:=eP (HR1.out ?aDo (by repeat(first|exact HK.out|apply Kept.alloc|apply Kept.drewN|apply Kept.drew|refine Kept.setCell ?_ (.inr dW.out) _|refine Kept.setCell ?_ (.inr dW.out) _))) fD (of_eq_true kX) (of_eq_true kY);cases e_;exact qO)|(obtain⟨_,e_,qN,qO,qP⟩:=eP (HR1.out _ (by repeat(first|exact HK.out|apply Kept.alloc|apply Kept.drewN|apply Kept.drew|refine Kept.setCell ?_ (.inr dW.out) _|refine Kept.setCell ?_ (.inr dW.out) _))) fD (of_eq_true kX) (of_eq_true kY);cases e_;exact qO)),(by first|(show World.cell? ?aDp _=_;obtain⟨_,e_,qN,qO,qP⟩:=eP (HR1.out ?aDp (by repeat(first|exact HK.out|apply Kept.alloc|apply Kept.drewN|apply Kept.drew|refine Kept.setCell ?_ (.inr dW.out) _|refine Kept.setCell ?_ (.inr dW.out) _))) fD (of_eq_true kX) (of_eq_true kY);cases e_;exact qP)|(obtain⟨_,e_,qN,qO,qP⟩:=eP (HR1.out _ (by repeat(first|exact HK.out|apply Kept.alloc|apply Kept.drewN|apply Kept.drew|refine Kept.setCell ?_ (.inr dW.out) _|refine Kept.setCell ?_ (.inr dW.out) _))) fD (of_eq_true kX) (of_eq_true kY);cases e_;exact qP))⟩ (fun hHeld=>?_)
        clear hK K
        refine nm ?_
        refine fV (i:=5) (N:=some 22) (bm 12 575) rfl rfl (bL HT_.out (by kernel_rfl)) (by decide) (fun K hK=>?_)
        refine gs Tryz.func98 #[.agg #[.slice BD iI.length yG,.int .i64 jK],.agg #[.string ((aT l1 fD).f0),.string ((aT l1 fD).f1),.bool ((aT l1 fD).f2)]] ?_
        with_reducible refine(bY.calls k1 (fun k_=>some k_=(.slice BD iI.length yG:Value).ownBlock) (.slice BD iI.length yG) iI jK ((aT l1 fD).f0) ((aT l1 fD).f1) ((aT l1 fD).f2) XL XM P7 w0 _ ?aN ?aQ A8.out).mono ?_
        (case aN=>exact zb HB)
        (case aQ=>exact Kd.R_tight rfl HO_462000.out)
        rintro e w13 ⟨a1C,rfl,ho0,hb,hkp⟩
        refine⟨_,rfl,?_⟩
        replace iV:=ah.mk (mR (zk iV) hkp (fun h_=>h_))
        replace l5:=ah.mk (mR (zk l5) hkp (fun h_=>h_))
        replace uV:=ah.mk (mR (zk uV) hkp (fun h_=>h_))
        have CK:=ah.mk (Kd.R_mono (ok':=fun k_=>(ji k_∨w.heap.size≤k_)) ho0 (fun k_ Oq=>Or.elim Oq (fun hs_=>(HO_462000.out.1 k_ (hs_).symm)) (fun QW=>(.inr (Nat.le_trans (by first|exact HK.out.1|exact(show Kept w _ (fun _=>False)from by repeat(first|(with_reducible first|exact HK.out|apply Kept.alloc|apply Kept.drewN|apply Kept.drew|refine Kept.setCell ?_ (.inr HY.out) _|refine Kept.setCell ?_ (.inr HZ.out) _|refine Kept.setCell ?_ (.inr dW.out) _)|exact HK.out)).1) QW)))))
        replace HK:=ah.mk (Kept.then_ (S:=(fun _=>False)) (by repeat(first|(with_reducible first|exact HK.out|apply Kept.alloc|apply Kept.drewN|apply Kept.drew|refine Kept.setCell ?_ (.inr HY.out) _|refine Kept.setCell ?_ (.inr HZ.out) _|refine Kept.setCell ?_ (.inr dW.out) _)|exact HK.out)) hkp (fun _ h_=>h_.elim))
        replace HB:=ah.mk (hb)
        clear HO_462000
        (try clear hb)
        (try clear hkp)
        (try clear ho0)
        refine hK.out _ _ ⟨(au iV.out 0).trans rfl,(au iV.out 1).trans rfl,(by first|(show World.cell? ?aDq _=_;obtain⟨_,e_,qN,qO,qP⟩:=eP (HR1.out ?aDq (by repeat(first|exact HK.out|apply Kept.alloc|apply Kept.drewN|apply Kept.drew|refine Kept.setCell ?_ (.inr dW.out) _|refine Kept.setCell ?_ (.inr dW.out) _))) fD (of_eq_true kX) (of_eq_true kY);cases e_;exact qN)|(obtain⟨_,e_,qN,qO,qP⟩:=eP (HR1.out _ (by repeat(first|exact HK.out|apply Kept.alloc|apply Kept.drewN|apply Kept.drew|refine Kept.setCell ?_ (.inr dW.out) _|refine Kept.setCell ?_ (.inr dW.out) _))) fD (of_eq_true kX) (of_eq_true kY);cases e_;exact qN)),(by first|(show World.cell? ?aDr _=_;obtain⟨_,e_,qN,qO,qP⟩:=eP (HR1.out ?aDr (by repeat(first|exact HK.out|apply Kept.alloc|apply Kept.drewN|apply Kept.drew|refine Kept.setCell ?_ (.inr dW.out) _|refine Kept.setCell ?_ (.inr dW.out) _))) fD (of_eq_true kX) (of_eq_true kY);cases e_;exact qO)|(obtain⟨_,e_,qN,qO,qP⟩:=eP (HR1.out _ (by repeat(first|exact HK.out|apply Kept.alloc|apply Kept.drewN|apply Kept.drew|refine Kept.setCell ?_ (.inr dW.out) _|refine Kept.setCell ?_ (.inr dW.out) _))) fD (of_eq_true kX) (of_eq_true kY);cases e_;exact qO)),(by first|(show World.cell? ?aDs _=_;obtain⟨_,e_,qN,qO,qP⟩:=eP (HR1.out ?aDs (by repeat(first|exact HK.out|apply Kept.alloc|apply Kept.drewN|apply Kept.drew|refine Kept.setCell ?_ (.inr dW.out) _|refine Kept.setCell ?_ (.inr dW.out) _))) fD (of_eq_true kX) (of_eq_true kY);cases e_;exact qP)|(obtain⟨_,e_,qN,qO,qP⟩:=eP (HR1.out _ (by repeat(first|exact HK.out|apply Kept.alloc|apply Kept.drewN|apply Kept.drew|refine Kept.setCell ?_ (.inr dW.out) _|refine Kept.setCell ?_ (.inr dW.out) _))) fD (of_eq_true kX) (of_eq_true kY);cases e_;exact qP))⟩ (fun hHeld=>?_)
        clear hK K
        refine nm ?_
        refine pu 6 (some 16) (bm 12 639) rfl rfl ?_
        refine pu 7 (some 23) (bm 12 767) rfl rfl ?_
        refine pu 8 (some 24) (bm 12 1023) rfl rfl ?_
        exact yT (by simp only[rY,Act.put,s1,s2,s3]) (hCont (a1C,jT) _ ⟨hHeld,(zr CK),(zk iV),(zk l5),(zk uV),dW.out,VU.out,kH.out,oJ.out,oK.out,oL.out,(by repeat(first|(with_reducible first|exact HK.out|apply Kept.alloc|apply Kept.drewN|apply Kept.drew|refine Kept.setCell ?_ (.inr HY.out) _|refine Kept.setCell ?_ (.inr HZ.out) _|refine Kept.setCell ?_ (.inr dW.out) _)|exact HK.out)),(zb HB)⟩)
      rintro⟨a1C,jT⟩ D5 ⟨hS_,h0_,h1_,h2_,h3_,h4_,h5_,h6_,h7_,h8_,h9_,aoS,aoT⟩
      have sV:ah (Kd.R iF 89 D5 w0.heap.size (fun k_=>(ji k_∨w.heap.size≤k_)) a1C XL):=⟨h0_⟩
      have sW:ah (D5.heap[nU]?=some (.cells #[.slice BD iI.length yG,.int .i64 jK] 25 (0,0))):=⟨h1_⟩
      have uS:ah (D5.heap[rQ]?=some (.cells #[.slice none 0 0,.int .i64 0] 25 (0,0))):=⟨h2_⟩
      have uT:ah (D5.heap[jT]?=some (.cells #[.slice none 0 0,.int .i64 0] 25 (0,0))):=⟨h3_⟩
      have wR:ah (w.heap.size≤jT):=⟨h4_⟩
      have wS:ah (w0.heap.size≤jT):=⟨h5_⟩
      have Gg:ah (nU≠jT):=⟨h6_⟩
      have n7_:ah (jT≠nU):=⟨h7_⟩
      have n8_:ah (rQ≠jT):=⟨h8_⟩
      have n9_:ah (jT≠rQ):=⟨h9_⟩
      have aoU:ah (Kept w D5 (fun _=>False)):=⟨aoS⟩
      have aoV:ah (Below w0.heap.size w0 D5):=⟨aoT⟩
      clear HO_462000
      clear iV
      clear l5
      clear HK
      clear HB
      clear h0_ h1_ h2_ h3_ h4_ h5_ h6_ h7_ h8_ h9_ aoS aoT
      have CK:=sV
      have iV:=sW
      have l5:=uS
      have uV:=uT
      have dW:=wR
      have VU:=wS
      have kH:=Gg
      have oJ:=n7_
      have oK:=n8_
      have oL:=n9_
      have HK:=aoU
      have HB:=aoV
      clear sV sW uS uT wR wS Gg n7_ n8_ n9_ aoU aoV
      have hHeld:D5.cell? ⟨nU,0,none⟩=some (.slice BD iI.length yG)∧D5.cell? ⟨nU,1,none⟩=some (.int .i64 jK)∧D5.cell? (qM.add ((fD).toNat*3))=some (.string ((aT l1 fD).f0))∧D5.cell? ⟨(qM.add ((fD).toNat*3)).block,(qM.add ((fD).toNat*3)).off+1,none⟩=some (.string ((aT l1 fD).f1))∧D5.cell? ⟨(qM.add ((fD).toNat*3)).block,(qM.add ((fD).toNat*3)).off+2,none⟩=some (.bool ((aT l1 fD).f2)):=hS_
      obtain⟨aDt,aDu,aoW⟩:=Kd.R_slice CK.out
      (first|subst aoW|(injection aoW with Cx Na Cy;have Nb:=Cx.symm;have Nc:=Cy.symm;clear Cx Na Cy;subst Nb;subst Nc))
      refine yT (a':=?_) ?_ ?_
      rotate_left
      ·simp only[rY,Act.put,s1,s2,s3]
       rfl
      refine fV (i:=10) (N:=none) (bm 12 2047) rfl rfl (bL HT_.out (by kernel_rfl)) (by decide) (fun K hK=>?_)
      have aRK:D5.cell? ⟨jT,0,none⟩=some (.slice none 0 0):=(au uV.out 0).trans rfl
      have aNq:=ak uV.out 0
      have ayz:=kH.out
      have ayA:=oK.out
      have ayB:=oJ.out
      have ayC:=oL.out
      have aRL:D5.cell? ⟨jT,1,none⟩=some (.int .i64 0):=(au uV.out 1).trans rfl
      have aNr:=ak uV.out 1
      have ayD:=kH.out
      have ayE:=oK.out
      have ayF:=oJ.out
      have ayG:=oL.out
      refine oW (w1:=?_) (by rfl) rfl ?_ ?_
      rotate_left
      ·go_simp
       rfl
      refine hK.out _ _ ⟨((cell_far (p:=⟨jT,_,none⟩) kH.out _).trans (((cell_far (p:=⟨jT,_,none⟩) kH.out _).trans (hHeld.1)))),((cell_far (p:=⟨jT,_,none⟩) kH.out _).trans (((cell_far (p:=⟨jT,_,none⟩) kH.out _).trans (hHeld.2.1)))),(by first|(show World.cell? ?aDv _=_;obtain⟨_,e_,qN,qO,qP⟩:=eP (HR1.out ?aDv (by repeat(first|exact HK.out|apply Kept.alloc|apply Kept.drewN|apply Kept.drew|refine Kept.setCell ?_ (.inr dW.out) _|refine Kept.setCell ?_ (.inr dW.out) _))) fD (of_eq_true kX) (of_eq_true kY);cases e_;exact qN)|(obtain⟨_,e_,qN,qO,qP⟩:=eP (HR1.out _ (by repeat(first|exact HK.out|apply Kept.alloc|apply Kept.drewN|apply Kept.drew|refine Kept.setCell ?_ (.inr dW.out) _|refine Kept.setCell ?_ (.inr dW.out) _))) fD (of_eq_true kX) (of_eq_true kY);cases e_;exact qN)),(by first|(show World.cell? ?aDw _=_;obtain⟨_,e_,qN,qO,qP⟩:=eP (HR1.out ?aDw (by repeat(first|exact HK.out|apply Kept.alloc|apply Kept.drewN|apply Kept.drew|refine Kept.setCell ?_ (.inr dW.out) _|refine Kept.setCell ?_ (.inr dW.out) _))) fD (of_eq_true kX) (of_eq_true kY);cases e_;exact qO)|(obtain⟨_,e_,qN,qO,qP⟩:=eP (HR1.out _ (by repeat(first|exact HK.out|apply Kept.alloc|apply Kept.drewN|apply Kept.drew|refine Kept.setCell ?_ (.inr dW.out) _|refine Kept.setCell ?_ (.inr dW.out) _))) fD (of_eq_true kX) (of_eq_true kY);cases e_;exact qO)),(by first|(show World.cell? ?aDx _=_;obtain⟨_,e_,qN,qO,qP⟩:=eP (HR1.out ?aDx (by repeat(first|exact HK.out|apply Kept.alloc|apply Kept.drewN|apply Kept.drew|refine Kept.setCell ?_ (.inr dW.out) _|refine Kept.setCell ?_ (.inr dW.out) _))) fD (of_eq_true kX) (of_eq_true kY);cases e_;exact qP)|(obtain⟨_,e_,qN,qO,qP⟩:=eP (HR1.out _ (by repeat(first|exact HK.out|apply Kept.alloc|apply Kept.drewN|apply Kept.drew|refine Kept.setCell ?_ (.inr dW.out) _|refine Kept.setCell ?_ (.inr dW.out) _))) fD (of_eq_true kX) (of_eq_true kY);cases e_;exact qP))⟩ (fun hHeld=>?_)
      clear hK K
      refine pu 11 (some 9) (bm 12 4095) rfl rfl ?_
      refine fw (dM HT_.out (by kernel_rfl)) ?_
      have abR:=oJ.out
      have abS:=kH.out
      have ant:=oL.out
      have anu:=oK.out
      obtain⟨TK,TL,TM,TN⟩:=c2 uV
      have acB:=I4.out
      have acC:=I5.out
      obtain⟨TP,TQ,TR,TT⟩:=c2 iV
      try go_wp2
      go_roundg k1
      case measure=>have:=jc.out;omega
      case rel=>exact⟨(iP++P7),(wrap64 (fD+1)),(XL),(XM),(.slice aDt XL.length aDu),zs,zs,H',⟨by have:=jc.out;omega⟩,⟨(Kd.R_mono (qb (Kd.R_types (Kd.R_types CK.out uV.out (by decide)) iV.out (by decide))) (fun _ hk=>hk.1.1))⟩,⟨zp iV⟩,⟨zp l5⟩,⟨kz⟩,⟨zb HB⟩⟩
     ·rw[if_neg c9]at H
      exact absurd H (by simp)
    ·rw[if_neg c7]at H
     exact absurd H (by simp)
   ·skip
    have c6b0:=decide_eq_false c6
    clear c6
    simp only[Option.some.injEq,Prod.mk.injEq]at H
    obtain⟨rfl,rfl,rfl⟩:=H
    have aoa:=I4.out
    have aob:=I5.out
    obtain⟨a8t,a8u,a8v,a8w⟩:=c2 iV
    obtain⟨aDy,aDz,aDA⟩:=Kd.R_slice HO_462000.out
    subst aDA
    obtain⟨JJ,JK,JL,JM⟩:=c2 l5
    go_wp2
    refine bodyPost_ret (fu rfl _ _ rQ 25 #[.slice aDy iI.length aDz,.int .i64 jK] (0,0) _ rfl (zp l5) Tryz.underlying25 rfl (by kernel_rfl)) rfl ?_
    exact⟨_,ze,(Kd.R_mono (qb (Kd.R_types HO_462000.out l5.out (by decide))) (fun _ hk=>hk.1)),zb HB,kz⟩
def bV.j0:Nat→ByteArray→Int→Bool→Option (Int×Bool×Int×ByteArray×Int×Int)
 |0,_,_,_=>none
 |k+1,x0,x5,x20=>if x20=true then(some (0,false,0,(⟨#[]⟩:ByteArray),0,(-1)))else(if(x0.size:Int)<(wrap64 (4+x5))then(some (0,false,0,(⟨#[]⟩:ByteArray),0,0))else(if 1<(x0.size:Int)then(if 2<(x0.size:Int)then(if 3<(x0.size:Int)then(if 4≤(wrap64 (4+x5))then(if(wrap64 (4+x5))≤(x0.size:Int)then((dh.f k (wrap64 (bt x0 1)) ((bt x0 2)==1) (wrap64 (bt x0 3)) (x0.extract 4 ((wrap64 (4+x5)):Int).toNat)).bind fun a9k=>(if a9k=true then(some (wrap64 (bt x0 1),((bt x0 2)==1),wrap64 (bt x0 3),x0.extract 4 ((wrap64 (4+x5)):Int).toNat,wrap64 (4+x5),1))else(some (0,false,0,(⟨#[]⟩:ByteArray),0,(-1)))))else(none))else(none))else(none))else(none))else(none)))
def bV.f(k:Nat)(a0:ByteArray):Option (Int×Bool×Int×ByteArray×Int×Int):=if(a0.size:Int)<4 then(some (0,false,0,(⟨#[]⟩:ByteArray),0,0))else(if 0<(a0.size:Int)then(if(wrap64 (bt a0 0))>200 then(bV.j0 k a0 (wrap64 (bt a0 0)) true)else(if 2<(a0.size:Int)then(bV.j0 k a0 (wrap64 (bt a0 0)) (decide ((bt a0 2)>1)))else(none)))else(none))
theorem bV.mono_l:∀k,(∀y0 y1 y2,gV (bV.j0 k y0 y1 y2) (bV.j0 (k+1) y0 y1 y2))
 |0=>fun _ _ _ r h=>by simp[bV.j0]at h
 |k+1=>by
  have ng:=bV.mono_l k
  ·intro y0 y1 y2
   unfold bV.j0
   have m0:=@dh.mono
   exact zm
theorem bV.mono:∀a0 k,gV (bV.f k a0) (bV.f (k+1) a0):=by
 intro a0 k
 have ng:=bV.mono_l k
 unfold bV.f
 have m0:=@dh.mono
 exact zm
def bV.T8:Bool×List (List Nat×List Nat):=(true,[([],[]),([0],[0]),([1],[1]),([],[]),([3],[3]),([4],[4]),([],[]),([6],[6]),([7],[7]),([],[]),([],[]),([10],[10]),([9,11],[9,11]),([2,5,8,12],[2,5,8,12]),([],[]),([14,13,0,1,2,3,4,5,6,7,8,9,10,11,12,13,14],[13,14])])
def bV.B8:List Nat:=[0,1,3,0,8,24,0,64,192,0,0,1024,3584,8191,0,32767]
theorem bV.tab8:jm .any (opsOf Tryz.f45 8)=bV.T8:=by kernel_rfl
theorem bV.bits8:fQ bV.T8.2 bV.B8=true:=by kernel_rfl
theorem bV.calls(k:Nat)(a0:ByteArray)(r1:Int)(r2:Bool)(r3:Int)(r4:ByteArray)(r5:Int)(r6:Int)(w:World)(h:bV.f k a0=some (r1,r2,r3,r4,r5,r6)):
 Calls Tryz.prog 45 #[.string a0] w fun e w'=>e= .returned (.tuple #[.agg #[.int .i64 r1,.bool r2,.int .i64 r3,.string r4],.int .i64 r5,.int .i64 r6])∧Below w.heap.size w w':=by
 have a6R:=Tryz.underlying42
 have HB:=ah.mk (Below.refl w.heap.size w)
 have H:(if(a0.size:Int)<4 then(some (0,false,0,(⟨#[]⟩:ByteArray),0,0))else(if 0<(a0.size:Int)then(if(wrap64 (bt a0 0))>200 then(bV.j0 k a0 (wrap64 (bt a0 0)) true)else(if 2<(a0.size:Int)then(bV.j0 k a0 (wrap64 (bt a0 0)) (decide ((bt a0 2)>1)))else(none)))else(none)))=some (r1,r2,r3,r4,r5,r6):=h
 clear h
 replace H:=sp H
 rcases H with⟨c2,H⟩|⟨c2,H⟩
 ·skip
  have c2b0:=decide_eq_true c2
  have c2b1:=decide_eq_true (by omega)
  clear c2
  simp only[Option.some.injEq,Prod.mk.injEq]at H
  obtain⟨rfl,rfl,rfl,rfl,rfl,rfl⟩:=H
  go_enter Tryz.func45,Tryz.ntmps45
  go_wp2_with (first|((with_reducible refine gd 2 rfl ?_);refine bx (N:=2) (cs:=#[.int .i64 0,.bool false,.int .i64 0,.string (⟨#[]⟩:ByteArray)]) (t:=42) ?_;intro xU hg w3 hbox hb;have mo:=ah.mk (hbox);have a1D:=gw HB hg;have aoX:=a1D;replace HB:=ah.mk (ai (zb HB) hb);clear hb hbox hg;obtain⟨um,uo,yw,Bz,yx,uq,yA,BA⟩:=c4 mo))
  refine bodyPost_ret (fJ rfl _ _ xU 42 #[.int .i64 0,.bool false,.int .i64 0,.string (⟨#[]⟩:ByteArray)] (0,0) _ rfl (zp mo) Tryz.underlying42 rfl (by kernel_rfl)) rfl ?_
  exact⟨ze,zb HB⟩
 ·skip
  have c2b0:=decide_eq_false c2
  have c2b1:=decide_eq_false (by omega)
  clear c2
  replace H:=sp H
  rcases H with⟨c5,H⟩|⟨c5,H⟩
  ·skip
   have c5b0:=decide_eq_true c5
   have c5b1:=decide_eq_true (by omega)
   clear c5
   have HC7:=ah.mk H
   clear H
   go_enter Tryz.func45,Tryz.ntmps45
   go_upto_region 4 with(first|((with_reducible refine gd 2 rfl ?_);refine bx (N:=2) (cs:=#[.int .i64 0,.bool false,.int .i64 0,.string (⟨#[]⟩:ByteArray)]) (t:=42) ?_;intro xU hg w8 hbox hb;have mo:=ah.mk (hbox);have a1D:=gw HB hg;have aoX:=a1D;replace HB:=ah.mk (ai (zb HB) hb);clear hb hbox hg;have p6:0≤(0:Int):=(by omega);have q6:0<a0.size:=(by have:(0:Int)<(a0.size:Int):=of_decide_eq_true za;omega);have hx6:∀h:0<a0.size,((a0[0]'h).toNat:Int)=bt a0 0:=gB a0 0;clear p6;have qi6:(0<(a0.size:Int))=True:=eq_true (of_decide_eq_true za);replace q6:=eq_true q6))
   (try simp only[Act.put,s1,s2,s3])
   go_cut [20] (fun v20 wc=>∃(kq:Nat)(VW:Bool),v20= .bool VW∧ah (bV.j0 kq a0 (wrap64 (bt a0 0)) VW=some (r1,r2,r3,r4,r5,r6))∧ah (kq≤k)∧ah (wc.heap[xU]?=some (.cells #[.int .i64 0,.bool false,.int .i64 0,.string (⟨#[]⟩:ByteArray)] 42 (0,0)))∧ah (Below w.heap.size w wc))
   case first=>
    have H:=HC7.out
    clear HC7
    by_cases c9:(wrap64 (bt a0 0))>200
    ·rw[if_pos c9]at H
     have c9b0:=decide_eq_true c9
     clear c9
     (first|rw[c9b0]|rw[c9b1]|rw[c9b2]|(simp only[iC,iQ];rw[c9b0])|skip)
     have H':=ah.mk H
     clear H
     go_wp2
     go_meet
     case rel=>exact⟨_,(true),zs,H',⟨by first|omega|exact Nat.le_refl _⟩,⟨by exact zk mo⟩,⟨zb HB⟩⟩
    ·rw[if_neg c9]at H
     have c9b0:=decide_eq_false c9
     clear c9
     (first|rw[c9b0]|rw[c9b1]|rw[c9b2]|(simp only[iC,iQ];rw[c9b0])|skip)
     by_cases c10:2<(a0.size:Int)
     ·rw[if_pos c10]at H
      have c10b0:=decide_eq_true c10
      have c10b1:=decide_eq_true (by omega)
      clear c10
      have H':=ah.mk H
      clear H
      have p11:0≤(2:Int):=(by omega)
      have Qf:2<a0.size:=(by have:(2:Int)<(a0.size:Int):=of_decide_eq_true za;omega)
      have a1i:∀h:2<a0.size,((a0[2]'h).toNat:Int)=bt a0 2:=gB a0 2
      clear p11
      have a1j:(2<(a0.size:Int))=True:=eq_true (of_decide_eq_true za)
      replace Qf:=eq_true Qf
      go_wp2
      go_meet
      case rel=>exact⟨_,(decide ((bt a0 2)>1)),zs,H',⟨by first|omega|exact Nat.le_refl _⟩,⟨by exact zk mo⟩,⟨zb HB⟩⟩
     ·rw[if_neg c10]at H
      exact absurd H (by simp)
   case rest=>
    clear HC7
    try clear c1
    try clear p1
    try clear q1
    try clear hx1
    try clear qi1
    try clear c2
    try clear c2b0
    try clear c2b1
    try clear p2
    try clear c4
    try clear c5
    try clear c5b0
    try clear c5b1
    try clear p6
    try clear q6
    try clear hx6
    try clear qi6
    try clear c9
    try clear c9b0
    try clear c9b1
    try clear c9b2
    try clear c10
    try clear c10b0
    try clear c10b1
    try clear p11
    try clear Qf
    try clear a1i
    try clear a1j
    try clear um
    try clear uo
    try clear yw
    try clear Bz
    try clear yx
    try clear uq
    try clear yA
    try clear BA
    try clear p11
    try clear p6
    try clear Qf
    try clear q6
    obtain⟨kq,VW,rfl,HA,HJ6,mo,HB⟩:=hcut
    cases kq with
    |zero=>exact absurd HA.out (by simp[bV.j0])
    |succ kj6=>
     have H:=HA.out
     clear HA
     simp only[bV.j0]at H
     by_cases c12:VW=true
     ·subst c12
      rw[if_pos rfl]at H
      simp only[Option.some.injEq,Prod.mk.injEq]at H
      obtain⟨rfl,rfl,rfl,rfl,rfl,rfl⟩:=H
      obtain⟨JU,JV,Vv,ayH,JW,JX,Vw,ayI⟩:=c4 mo
      go_wp2
      refine bodyPost_ret (fJ rfl _ _ xU 42 #[.int .i64 0,.bool false,.int .i64 0,.string (⟨#[]⟩:ByteArray)] (0,0) _ rfl (zp mo) Tryz.underlying42 rfl (by kernel_rfl)) rfl ?_
      exact⟨ze,zb HB⟩
     ·replace c12:=Bool.eq_false_iff.mpr c12
      subst c12
      rw[if_neg (show ¬(false=true) by decide)]at H
      by_cases c14:(a0.size:Int)<(wrap64 (4+(wrap64 (bt a0 0))))
      ·rw[if_pos c14]at H
       have c14b0:=decide_eq_true c14
       clear c14
       simp only[Option.some.injEq,Prod.mk.injEq]at H
       obtain⟨rfl,rfl,rfl,rfl,rfl,rfl⟩:=H
       obtain⟨zn,zo,zu,Uo,zw,zx,zy,Uq⟩:=c4 mo
       go_wp2
       refine bodyPost_ret (fJ rfl _ _ xU 42 #[.int .i64 0,.bool false,.int .i64 0,.string (⟨#[]⟩:ByteArray)] (0,0) _ rfl (zp mo) Tryz.underlying42 rfl (by kernel_rfl)) rfl ?_
       exact⟨ze,zb HB⟩
      ·rw[if_neg c14]at H
       have c14b0:=decide_eq_false c14
       clear c14
       by_cases c16:1<(a0.size:Int)
       ·rw[if_pos c16]at H
        have c16b0:=decide_eq_true c16
        have c16b1:=decide_eq_true (by omega)
        clear c16
        by_cases c18:2<(a0.size:Int)
        ·rw[if_pos c18]at H
         have c18b0:=decide_eq_true c18
         have c18b1:=decide_eq_true (by omega)
         clear c18
         by_cases c20:3<(a0.size:Int)
         ·rw[if_pos c20]at H
          have c20b0:=decide_eq_true c20
          have c20b1:=decide_eq_true (by omega)
          clear c20
          by_cases LX:4≤(wrap64 (4+(wrap64 (bt a0 0))))
          ·rw[if_pos LX]at H
           have c22b0:=eq_true LX
           have c22b1:=decide_eq_true LX
           by_cases c23:(wrap64 (4+(wrap64 (bt a0 0))))≤(a0.size:Int)
           ·rw[if_pos c23]at H
            have c23b0:=eq_true c23
            have c23b1:=decide_eq_true c23
            obtain⟨a9k,A24,H⟩:=ob H
            (try dsimp only at H)
            have aoY:=ah.mk H
            clear H
            try go_wp2
            replace mo:=ah.mk (dn mo.out)
            replace HB:=ah.mk (dG HB.out)
            have Qd:0≤(1:Int):=(by omega)
            have NZ:1<a0.size:=(by have:(1:Int)<(a0.size:Int):=of_decide_eq_true za;omega)
            have a15:∀h:1<a0.size,((a0[1]'h).toNat:Int)=bt a0 1:=gB a0 1
            clear Qd
            have aRN:(1<(a0.size:Int))=True:=eq_true (of_decide_eq_true za)
            replace NZ:=eq_true NZ
            have p19:0≤(2:Int):=(by omega)
            have q19:2<a0.size:=(by have:(2:Int)<(a0.size:Int):=of_decide_eq_true za;omega)
            have aRP:∀h:2<a0.size,((a0[2]'h).toNat:Int)=bt a0 2:=gB a0 2
            clear p19
            have aRQ:(2<(a0.size:Int))=True:=eq_true (of_decide_eq_true za)
            replace q19:=eq_true q19
            have p21:0≤(3:Int):=(by omega)
            have q21:3<a0.size:=(by have:(3:Int)<(a0.size:Int):=of_decide_eq_true za;omega)
            have aRS:∀h:3<a0.size,((a0[3]'h).toNat:Int)=bt a0 3:=gB a0 3
            clear p21
            have aRT:(3<(a0.size:Int))=True:=eq_true (of_decide_eq_true za)
            replace q21:=eq_true q21
            refine tZ (n:=16) (S:=fun w'=>True) (ds:=[]) #[false,false,false,false,false,false,false,false,false,false,false,false,false,false,false,false] (by kernel_rfl) rfl rfl trivial (fun hHeld=>?_);refine bR bV.tab8 bV.bits8 (fun HT_ HW_=>?_)
            generalize wc.drew=w26 at mo HB hHeld ⊢
            refine pu 0 (some 28) (bm 16 1) rfl rfl ?_
            refine pu 3 (some 31) (bm 16 9) rfl rfl ?_
            refine pu 6 (some 34) (bm 16 73) rfl rfl ?_
            refine pu 9 (some 37) (bm 16 585) rfl rfl ?_
            refine pu 10 (some 38) (bm 16 1609) rfl rfl ?_
            refine pu 11 (some 39) (bm 16 3657) rfl rfl ?_
            refine pu 12 (some 40) (bm 16 7753) rfl rfl ?_
            refine take_ (i:=1) (N:=some 29) (v:=?_) (a':=?_) #[true,true,false,true,false,false,true,false,false,true,true,true,true,false,false,false] rfl rfl (yX HT_.out HW_.out (by kernel_rfl)) (fun _ _ _ h=>h) (Or.inl ⟨by rfl,?_⟩) hHeld ?_ ?_
            rotate_left
            ·intro w' _
             go_simp
             with_reducible rfl
            rotate_left
            ·simp only[Act.put,s1,s2,s3,iC,iQ]
             rfl
            refine pu 2 (some 30) (bm 16 7759) rfl rfl ?_
            refine take_ (i:=4) (N:=some 32) (v:=?_) (a':=?_) #[true,true,true,true,true,false,true,false,false,true,true,true,true,false,false,false] rfl rfl (yX HT_.out HW_.out (by kernel_rfl)) (fun _ _ _ h=>h) (Or.inl ⟨by rfl,?_⟩) hHeld ?_ ?_
            rotate_left
            ·intro w' _
             go_simp
             with_reducible rfl
            rotate_left
            ·simp only[Act.put,s1,s2,s3,iC,iQ]
             rfl
            refine pu 5 (some 33) (bm 16 7807) rfl rfl ?_
            refine take_ (i:=7) (N:=some 35) (v:=?_) (a':=?_) #[true,true,true,true,true,true,true,true,false,true,true,true,true,false,false,false] rfl rfl (yX HT_.out HW_.out (by kernel_rfl)) (fun _ _ _ h=>h) (Or.inl ⟨by rfl,?_⟩) hHeld ?_ ?_
            rotate_left
            ·intro w' _
             go_simp
             with_reducible rfl
            rotate_left
            ·simp only[Act.put,s1,s2,s3,iC,iQ]
             rfl
            refine pu 8 (some 36) (bm 16 8191) rfl rfl ?_
            refine pu 13 (some 41) (bm 16 16383) rfl rfl ?_
            refine fV (i:=14) (N:=some 6) (bm 16 32767) rfl rfl (bL HT_.out (by kernel_rfl)) (by decide) (fun K hK=>?_)
            refine Ej ?hg (N:=6) ?hd (cs:=#[.int .i64 0,.bool false,.int .i64 0,.string (⟨#[]⟩:ByteArray)]) (t:=42) ?hr ?_;(case hd=>rfl);(case hg=>rfl);(case hr=>first|(go_simp;done)|(go_simp;rfl))
            intro vV hg w27 hbox hb
            have nV:=ah.mk (hbox)
            have aNt:=gw HB hg
            have aNu:=gw HB hg
            replace HB:=ah.mk (ai (zb HB) hb)
            have oM:=ah.mk ((by rw[hg];exact Nat.ne_of_lt (fZ (zk mo)):xU≠vV))
            have oN:=ah.mk ((by rw[hg];exact Nat.ne_of_gt (fZ (zk mo)):vV≠xU))
            replace mo:=kb mo hb
            clear hb hbox hg
            refine hK.out _ _ trivial (fun hHeld=>?_)
            clear hK K
            refine nm ?_
            refine fV (i:=15) (N:=none) (bm 16 65535) rfl rfl (bL HT_.out (by kernel_rfl)) (by decide) (fun K hK=>?_)
            have aCz:w27.cell? ⟨vV,0,none⟩=some (.int .i64 0):=(au nV.out 0).trans rfl
            have anv:=ak nV.out 0
            have a8S:=oM.out
            have a8T:=oN.out
            have anw:w27.cell? ⟨vV,1,none⟩=some (.bool false):=(au nV.out 1).trans rfl
            have acH:=ak nV.out 1
            have VD:=oM.out
            have VE:=oN.out
            have aDl:w27.cell? ⟨vV,2,none⟩=some (.int .i64 0):=(au nV.out 2).trans rfl
            have aoP:=ak nV.out 2
            have a9i:=oM.out
            have a9j:=oN.out
            have aRU:w27.cell? ⟨vV,3,none⟩=some (.string (⟨#[]⟩:ByteArray)):=(au nV.out 3).trans rfl
            have aNv:=ak nV.out 3
            have ayJ:=oM.out
            have ayK:=oN.out
            refine oW (w1:=?_) (by rfl) rfl ?_ ?_
            rotate_left
            ·go_simp
             rfl
            refine hK.out _ _ trivial (fun hHeld=>?_)
            clear hK K
            refine fw (dM HT_.out (by kernel_rfl)) ?_
            have abW:=oN.out
            have abX:=oM.out
            obtain⟨yY,yZ,z8,Jb,zf,zi,zl,Jc⟩:=c4 nV
            go_upto_if 44 with(first|((with_reducible refine gq 29 rfl ?_);refine gl (some 43) Tryz.func29 #[.agg #[.int .i64 (wrap64 (bt a0 1)),.bool ((bt a0 2)==1),.int .i64 (wrap64 (bt a0 3)),.string (a0.extract 4 ((wrap64 (4+(wrap64 (bt a0 0)))):Int).toNat)]] ?_;(with_reducible refine(dh.calls kj6 (wrap64 (bt a0 1)) ((bt a0 2)==1) (wrap64 (bt a0 3)) (a0.extract 4 ((wrap64 (4+(wrap64 (bt a0 0)))):Int).toNat) a9k _ A24.out).mono ?_);rintro e LZ ⟨rfl,hb⟩;refine⟨_,rfl,?_⟩;replace mo:=ah.mk (dX (g:=xU) (o:=.cells #[.int .i64 0,.bool false,.int .i64 0,.string (⟨#[]⟩:ByteArray)] 42 (0,0)) (zp mo) hb);replace nV:=ah.mk (dX (g:=vV) (o:=.cells #[.int .i64 (wrap64 (bt a0 1)),.bool ((bt a0 2)==1),.int .i64 (wrap64 (bt a0 3)),.string (a0.extract 4 ((wrap64 (4+(wrap64 (bt a0 0)))):Int).toNat)] 42 (0,0)) (zp nV) hb);replace HB:=ah.mk (ai (zb HB) hb);(try clear hb)))
            (try simp only[Act.put,s1,s2,s3])
            have H:=aoY.out
            clear aoY
            by_cases Qc:a9k=true
            ·subst Qc
             rw[if_pos rfl]at H
             simp only[Option.some.injEq,Prod.mk.injEq]at H
             obtain⟨rfl,rfl,rfl,rfl,rfl,rfl⟩:=H
             have a1m:=oN.out
             have a1n:=oM.out
             have Dt:LZ.cell? ⟨vV,0,none⟩=some (.int .i64 (wrap64 (bt a0 1))):=(au nV.out 0).trans rfl
             have Du:LZ.cell? ⟨vV,1,none⟩=some (.bool ((bt a0 2)==1)):=(au nV.out 1).trans rfl
             have Jh:LZ.cell? ⟨vV,2,none⟩=some (.int .i64 (wrap64 (bt a0 3))):=(au nV.out 2).trans rfl
             have Ji:LZ.cell? ⟨vV,3,none⟩=some (.string (a0.extract 4 ((wrap64 (4+(wrap64 (bt a0 0)))):Int).toNat)):=(au nV.out 3).trans rfl
             have Dv:=ak nV.out 0
             have Dw:=ak nV.out 1
             have Jj:=ak nV.out 2
             have Jk:=ak nV.out 3
             obtain⟨DI,DJ,DK,Uw,DL,DN,DT,Ux⟩:=c4 mo
             go_wp2
             refine bodyPost_ret (fJ rfl _ _ xU 42 #[.int .i64 (wrap64 (bt a0 1)),.bool ((bt a0 2)==1),.int .i64 (wrap64 (bt a0 3)),.string (a0.extract 4 ((wrap64 (4+(wrap64 (bt a0 0)))):Int).toNat)] (0,0) _ rfl (zp mo) Tryz.underlying42 rfl (by kernel_rfl)) rfl ?_
             exact⟨ze,zb HB⟩
            ·replace Qc:=Bool.eq_false_iff.mpr Qc
             subst Qc
             rw[if_neg (show ¬(false=true) by decide)]at H
             simp only[Option.some.injEq,Prod.mk.injEq]at H
             obtain⟨rfl,rfl,rfl,rfl,rfl,rfl⟩:=H
             have aNw:=oM.out
             have aNx:=oN.out
             obtain⟨ayL,ayM,ayN,ayO,ayP,ayQ,ayR,ayS⟩:=c4 mo
             go_wp2
             refine bodyPost_ret (fJ rfl _ _ xU 42 #[.int .i64 0,.bool false,.int .i64 0,.string (⟨#[]⟩:ByteArray)] (0,0) _ rfl (zp mo) Tryz.underlying42 rfl (by kernel_rfl)) rfl ?_
             exact⟨ze,zb HB⟩
           ·rw[if_neg c23]at H
            exact absurd H (by simp)
          ·rw[if_neg LX]at H
           exact absurd H (by simp)
         ·rw[if_neg c20]at H
          exact absurd H (by simp)
        ·rw[if_neg c18]at H
         exact absurd H (by simp)
       ·rw[if_neg c16]at H
        exact absurd H (by simp)
  ·skip
   exact absurd H (by simp)
end Go.Proofs.YtokblgdgpnakpaaGreat.PFnEndLess
namespace Go.Proofs.YtokblgdgpnakpaaGreat.Pure
open Go.RowKit Go.Proofs.YtokblgdgpnakpaaGreat.PFnEndLess Go.Proofs.YtokblgdgpnakpaaGreatW.PrintWords Go.Proofs.YtokblgdgpnakpaaGreatW.PrintLast Go.Proofs.YtokblgdgpnakpaaGreatW.PrintMore Go.Proofs.YtokblgdgpnakpaaGreat.Lm
theorem kr(l:List Int)(p n:Int)(hl:Bytes l)(hll:l.length≤2000)(hp:0≤p)(hp1:p≤1000000000)(hn:1≤n):
 EvQ (fun k=>av.f k l p n) (fun r=>0≤r.1∧r.1<n∧r.2=p+1):=by
 have e1:wrap64 (p+1)=p+1:=dP _ (by omega) (by omega)
 have e2:wrap64 (p+1-1)=p:=by rw[show p+1-1=p by omega];exact dP _ (by omega) (by omega)
 unfold av.f
 simp only[e1]
 refine EvQ.neg (by omega) ?_
 refine EvQ.step (fun k=>by rw[av.j0]) ?_
 simp only[e2]
 by_cases h0:(l.length:Int)=0
 ·refine EvQ.pos (by simpa using h0) (EvQ.now ⟨by omega,by omega,rfl⟩)
 ·refine EvQ.neg (by simpa using h0) ?_
  by_cases h1:p<(l.length:Int)
  ·refine EvQ.pos h1 (EvQ.pos hp (EvQ.neg (by omega) (EvQ.now ?_)))
   have hb:=El hl p
   rw[dP (rd l p) hb.1 (by omega)]
   have:=nk (rd l p) n hb.1 (by omega)
   exact⟨this.1,this.2,rfl⟩
  ·have hlen:0<(l.length:Int):=by omega
   have hm1:=nk p (l.length:Int) hp hlen
   have e7:wrap64 (p*7)=p*7:=dP _ (by omega) (by omega)
   have e3:wrap64 (p*7+3)=p*7+3:=dP _ (by omega) (by omega)
   have hm2:=nk (p*7+3) (l.length:Int) (by omega) hlen
   refine EvQ.neg h1 (EvQ.neg h0 ?_)
   simp only[e7,e3]
   refine EvQ.pos hm1.1 (EvQ.pos hm1.2 (EvQ.pos hm2.1 (EvQ.pos hm2.2 (EvQ.neg (by omega) (EvQ.now ?_)))))
   have ha:=El hl (Int.tmod p (l.length:Int))
   have hb:=El hl (Int.tmod (p*7+3) (l.length:Int))
   have hd:=xZ p (l.length:Int) hp hlen
   generalize rd l (Int.tmod p (l.length:Int))=a at*
   generalize rd l (Int.tmod (p*7+3) (l.length:Int))=b at*
   generalize Int.tdiv p (l.length:Int)=d at*
   rw[dP a ha.1 (by omega),dP b hb.1 (by omega),dP d hd.1 (by omega),dP (a*131) (by omega) (by omega),dP (b*1117) (by omega) (by omega),
    dP (p*29) (by omega) (by omega),dP (d*53) (by omega) (by omega),dP (a*131+b*1117) (by omega) (by omega),
    dP (a*131+b*1117+p*29) (by omega) (by omega),dP (a*131+b*1117+p*29+d*53) (by omega) (by omega)]
   have hx:0≤a*131+b*1117+p*29+d*53:=by omega
   have hx1:a*131+b*1117+p*29+d*53<2^62:=by omega
   generalize a*131+b*1117+p*29+d*53=x at*
   have hy:=xZ x 64 hx (by omega)
   rw[dP (Int.tdiv x 64) hy.1 (by omega)]
   have:=nk _ n (Em x (Int.tdiv x 64) hx hx1 hy.1 (by omega)) (by omega)
   exact⟨this.1,this.2,rfl⟩
theorem a9l(l:List Int)(hl:Bytes l):
 EvQ (fun _=>pq.f l) (fun r=>Bytes r.1∧r.1.length≤2000∧r.2=0):=by
 unfold pq.f
 refine EvQ.ite (fun h=>EvQ.pos (by omega) (EvQ.now ⟨hl.take _,by simp;omega,rfl⟩)) (fun h=>EvQ.now ⟨hl,(by omega:l.length≤2000),rfl⟩)
theorem Ko:∀c:Fin 4,dB.f 10 (⟨#[101]⟩:ByteArray) (15+(c.val:Int))=some (strOfNums (List.replicate (15+c.val) 101)):=by decide+kernel
theorem a1E(c:Int)(h0:0≤c)(h1:c<4):Ev (fun k=>dB.f k (⟨#[101]⟩:ByteArray) (15+c)) (strOfNums (List.replicate (15+c.toNat) 101)):=by
 obtain⟨n,rfl⟩:=Int.eq_ofNat_of_zero_le h0
 exact Ev.of (fun k=>dB.mono _ _ k) (Ko ⟨n,by omega⟩)
theorem Rl(l:List Int)(hl:Bytes l)(hll:l.length≤2000)(n:Nat):∀(s:ByteArray)(p:Int),s.size+n≤16→0≤p→p+3*n≤900000000→
 EvQ (fun k=>di.l0 k s n l p) (fun r=>r.1.size≤18∧p≤r.2∧r.2≤p+3*n+2):=by
 induction n with
 |zero=>
  intro s p hs hp hp1
  refine EvQ.step (fun k=>by rw[di.l0]) ?_
  refine EvQ.neg (by omega) (EvQ.bind (kr l p 24 hl hll hp (by omega) (by omega)) ?_)
  rintro⟨a,q⟩ ⟨ha,ha1,rfl⟩
  dsimp only at*
  refine EvQ.ite (fun h=>EvQ.pos (by omega) (EvQ.now ?_)) (fun h=>EvQ.ite (fun h1=>?_) (fun h1=>EvQ.now ?_))
  ·refine⟨?_,?_,?_⟩<;>dsimp only
   ·have:(s++(⟨#[65]⟩:ByteArray)).size=s.size+1:=by rw[bf];rfl
    omega
   ·omega
   ·omega
  ·refine EvQ.bind (kr l _ 4 hl hll (by omega) (by omega) (by omega)) ?_
   rintro⟨b,q⟩ ⟨hb,hb1,rfl⟩
   dsimp only at*
   rw[dP (15+b) (by omega) (by omega)]
   refine EvQ.bindE (a1E b hb hb1) (EvQ.now ?_)
   refine⟨?_,?_,?_⟩<;>dsimp only
   ·rw[gu,List.length_replicate];omega
   ·omega
   ·omega
  ·refine⟨?_,?_,?_⟩<;>(try dsimp only)<;>omega
 |succ n ih=>
  intro s p hs hp hp1
  refine EvQ.step (fun k=>by rw[di.l0]) ?_
  have e1:wrap64 (((n+1:Nat):Int)-1)=(n:Int):=by rw[dP _ (by omega) (by omega)];omega
  simp only[e1]
  refine EvQ.pos (by omega) (EvQ.bind (kr l p 24 hl hll hp (by omega) (by omega)) ?_)
  rintro⟨a,q⟩ ⟨ha,ha1,rfl⟩
  refine EvQ.bind (kr l _ 4 hl hll (by dsimp only;omega) (by dsimp only;omega) (by omega)) ?_
  rintro⟨b,q⟩ ⟨hb,hb1,rfl⟩
  dsimp only at*
  have hsz:∀c:Int,(s++strOfNums [wrap64 (bt (⟨#[101,116,97,111,105,110,115,114,104,108,48,49,50,51,52,53,54,55,56,57,100,99,117,109,102,112,103,119,121,98,118,107,120,106,113,122,58,47,45]⟩:ByteArray) c)%256]).size=s.size+1:=fun c=>by
   rw[bf,gu];rfl
  refine EvQ.ite (fun h=>?_) (fun h=>?_)
  ·refine EvQ.bind (kr l _ 39 hl hll (by omega) (by omega) (by omega)) ?_
   rintro⟨c,q⟩ ⟨hc,hc1,rfl⟩
   dsimp only at*
   unfold bP.f
   simp only[Option.bind_some]
   refine EvQ.pos hc (EvQ.pos hc1 (EvQ.pos (by rw[gu];simp;omega) (EvQ.mono (ih _ _ (by rw[hsz];omega) (by omega) (by omega)) ?_)))
   rintro⟨s',q⟩ ⟨h1,h2,h3⟩
   dsimp only at*
   refine⟨h1,?_,?_⟩<;>omega
  ·unfold bP.f
   simp only[Option.bind_some]
   refine EvQ.pos ha (EvQ.pos (by omega) (EvQ.pos (by rw[gu];simp;omega) (EvQ.mono (ih _ _ (by rw[hsz];omega) (by omega) (by omega)) ?_)))
   rintro⟨s',q⟩ ⟨h1,h2,h3⟩
   dsimp only at*
   refine⟨h1,?_,?_⟩<;>omega
theorem F7(l:List Int)(p:Int)(hl:Bytes l)(hll:l.length≤2000)(hp:0≤p)(hp1:p≤800000000):
 EvQ (fun k=>di.f k l p) (fun r=>r.1.size≤18∧p≤r.2∧r.2≤p+60):=by
 unfold di.f
 refine EvQ.bind (kr l p 9 hl hll hp (by omega) (by omega)) ?_
 rintro⟨a,q⟩ ⟨ha,ha1,rfl⟩
 refine EvQ.bind (kr l _ 6 hl hll (by dsimp only;omega) (by dsimp only;omega) (by omega)) ?_
 rintro⟨b,q⟩ ⟨hb,hb1,rfl⟩
 dsimp only at*
 have hd:=xZ b 5 hb (by omega)
 have hd2:Int.tdiv b 5≤1:=by rw[Int.tdiv_eq_ediv_of_nonneg hb];omega
 generalize Int.tdiv b 5=d at*
 rw[dP d (by omega) (by omega),dP (d*8) (by omega) (by omega),dP (a+d*8) (by omega) (by omega)]
 obtain⟨n,hn⟩:=Int.eq_ofNat_of_zero_le (show 0≤a+d*8 by omega)
 rw[hn]
 refine EvQ.mono (Rl l hl hll n (⟨#[]⟩:ByteArray) (p+1+1) (by rw[lT];omega) (by omega) (by omega)) ?_
 rintro⟨s',q⟩ ⟨h1,h2,h3⟩
 dsimp only at*
 refine⟨h1,?_,?_⟩<;>(try dsimp only)<;>omega
theorem Rm:∀c:Fin 256,dw.f 50 (c.val:Int)=some (place (c.val:Int)):=by decide+kernel
theorem I6(c:Int)(h0:0≤c)(h1:c<256):Ev (fun k=>dw.f k c) (place c):=by
 obtain⟨n,rfl⟩:=Int.eq_ofNat_of_zero_le h0
 exact Ev.of (fun k=>dw.mono _ k) (Rm ⟨n,by omega⟩)
theorem F8(a:ByteArray)(hs:a.size≤1000000000)(d:Nat):∀i:Nat,a.size-i=d→i≤a.size→
 Ev (fun k=>aW.l0 k a i) (decide (a.size≤16∧∀j:Nat,j<a.size→i≤j→0≤place (bt a j))):=by
 induction d with
 |zero=>
  intro i hd hi
  have e:i=a.size:=by omega
  refine Ev.step (fun k=>by rw[aW.l0]) ?_
  refine Ev.neg (by omega) ?_
  have:(decide (a.size≤16∧∀j:Nat,j<a.size→i≤j→0≤place (bt a j)))=decide ((a.size:Int)≤16):=by
   rw[decide_eq_decide]
   constructor
   ·rintro⟨h,_⟩;omega
   ·intro h;exact⟨by omega,fun j h1 h2=>by omega⟩
  rw[this]
  exact Ev.now _
 |succ d ih=>
  intro i hd hi
  have hb:=kg a i
  refine Ev.step (fun k=>by rw[aW.l0]) ?_
  refine EvQ.ev (EvQ.pos (by omega) (EvQ.pos (by omega) (EvQ.bindE (I6 _ hb.1 hb.2) ?_)))
  refine EvQ.ite (fun h=>EvQ.now ?_) (fun h=>?_)
  ·symm
   rw[decide_eq_false_iff_not]
   rintro⟨_,h2⟩
   have:=h2 i (by omega) (by omega)
   omega
  ·rw[dP _ (by omega) (by omega),show((i:Int)+1)=((i+1:Nat):Int) by omega]
   refine EvQ.of_ev (ih (i+1) (by omega) (by omega)) ?_
   rw[decide_eq_decide]
   constructor
   ·rintro⟨h1,h2⟩
    refine⟨h1,fun j h3 h4=>?_⟩
    by_cases e:j=i
    ·subst e;omega
    ·exact h2 j h3 (by omega)
   ·rintro⟨h1,h2⟩
    exact⟨h1,fun j h3 h4=>h2 j h3 (by omega)⟩
theorem kI(a:ByteArray)(hs:a.size≤1000000000):Ev (fun k=>aW.f k a) (j6 a):=by
 unfold aW.f
 have h:=F8 a hs a.size 0 (by omega) (by omega)
 have e:j6 a=(decide (a.size≤16∧∀j:Nat,j<a.size→0≤j→0≤place (bt a j))):=by
  unfold j6
  rw[decide_eq_decide,yc]
  simp
 rw[e]
 exact h
theorem a1F:∀c:Fin 32,bB.f 10 (c.val:Int) 5=some (lC (c.val:Int) 5):=by decide+kernel
theorem a1G:∀c:Fin 128,bB.f 10 (c.val:Int) 7=some (lC (c.val:Int) 7):=by decide+kernel
theorem Rn(c:Int)(h0:0≤c)(h1:c<32):Ev (fun k=>bB.f k c 5) (lC c 5):=by
 obtain⟨n,rfl⟩:=Int.eq_ofNat_of_zero_le h0
 exact Ev.of (fun k=>bB.mono _ _ k) (a1F ⟨n,by omega⟩)
theorem Ro(c:Int)(h0:0≤c)(h1:c<128):Ev (fun k=>bB.f k c 7) (lC c 7):=by
 obtain⟨n,rfl⟩:=Int.eq_ofNat_of_zero_le h0
 exact Ev.of (fun k=>bB.mono _ _ k) (a1G ⟨n,by omega⟩)
theorem a1H(l:List Int)(h01:∀x∈l,x=0∨x=1)(hl:l.length≤8)(d:Nat):∀i:Nat,l.length-i=d→i≤l.length→
 Ev (fun k=>bS.l0 k l (jV (l.take i)) i) (jV l):=by
 induction d with
 |zero=>
  intro i hd hi
  have e:i=l.length:=by omega
  refine Ev.step (fun k=>by rw[bS.l0]) ?_
  refine Ev.neg (by omega) ?_
  rw[e,List.take_length]
  exact Ev.now _
 |succ d ih=>
  intro i hd hi
  have hr:=xY l h01 i (by omega)
  have hp:=a3x i (by omega)
  have h2:=aaY l h01 i (by omega)
  have ht:=GA l i (by omega)
  refine Ev.step (fun k=>by rw[bS.l0]) ?_
  refine EvQ.ev (EvQ.pos (by omega) (EvQ.pos (by omega) ?_))
  rw[dP _ (by omega) (by omega:(i:Int)+1<_),dP (2*_) (by omega) (by omega),dP _ (by omega) (by omega),←ht,show((i:Int)+1)=((i+1:Nat):Int) by omega]
  exact EvQ.of_ev (ih (i+1) (by omega) (by omega)) rfl
theorem F9(l:List Int)(h01:∀x∈l,x=0∨x=1)(hl:l.length≤8):Ev (fun k=>bS.f k l) (jV l):=by
 unfold bS.f
 exact a1H l h01 hl l.length 0 (by omega) (by omega)
theorem XO(l:List Int)(h01:∀x∈l,x=0∨x=1)(hl:l.length≤1000)(h8:l.length%8=0)(d:Nat):∀m:Nat,l.length/8-m=d→m≤l.length/8→
 Ev (fun k=>aD.l2 k l (strOfNums (kT l m)) (8*(m:Int))) (strOfNums (kT l (l.length/8))):=by
 induction d with
 |zero=>
  intro m hd hm
  have e:m=l.length/8:=by omega
  refine Ev.step (fun k=>by rw[aD.l2]) ?_
  refine Ev.neg (by omega) ?_
  rw[e]
  exact Ev.now _
 |succ d ih=>
  intro m hd hm
  have e8:wrap64 (8*(m:Int)+8)=8*(m:Int)+8:=dP _ (by omega) (by omega)
  have es:(l.take (8*(m:Int)+8).toNat).drop (8*(m:Int)).toNat=(l.drop (8*m)).take 8:=by
   rw[show(8*(m:Int)+8).toNat=8*m+8 by omega,show(8*(m:Int)).toNat=8*m by omega,List.drop_take]
   congr 1;omega
  have aoZ:∀x∈(l.drop (8*m)).take 8,x=0∨x=1:=fun x hx=>h01 x (List.mem_of_mem_drop (List.mem_of_mem_take hx))
  have hsl:((l.drop (8*m)).take 8).length=8:=by rw[List.length_take,List.length_drop];omega
  have hr:=xY _ aoZ 8 (by omega)
  rw[show((l.drop (8*m)).take 8).take 8=(l.drop (8*m)).take 8 by rw[List.take_take];rfl]at hr
  refine Ev.step (fun k=>by rw[aD.l2]) ?_
  simp only[e8,es]
  refine EvQ.ev (EvQ.pos (by omega) (EvQ.pos (by omega) (EvQ.pos (by omega) (EvQ.pos (by omega) (EvQ.bindE (F9 _ aoZ (by omega)) ?_)))))
  unfold bP.f
  simp only[Option.bind_some]
  rw[Int.emod_eq_of_lt hr.1 (by omega)]
  refine EvQ.pos (by rw[gu,gu,uj];simp;omega) ?_
  rw[←Eo]
  have:=ih (m+1) (by omega) (by omega)
  rw[show 8*((m+1:Nat):Int)=8*(m:Int)+8 by omega]at this
  exact EvQ.of_ev this rfl
theorem XP(d:Nat):∀(l:List Int),(∀x∈l,x=0∨x=1)→l.length+d≤900→(8-l.length%8)%8=d→
 Ev (fun k=>aD.l1 k l) (strOfNums (kT (je l) ((je l).length/8))):=by
 induction d with
 |zero=>
  intro l h01 hl hd
  refine Ev.step (fun k=>by rw[aD.l1]) ?_
  rw[YF l (by omega)]
  refine Ev.neg (by omega) ?_
  exact XO l h01 (by omega) (by omega) _ 0 rfl (by omega)
 |succ d ih=>
  intro l h01 hl hd
  refine Ev.step (fun k=>by rw[aD.l1]) ?_
  rw[←YE l (by omega)]
  refine Ev.pos (by omega) (Ev.pos (by omega) ?_)
  refine ih (l++[1]) ?_ (by simp;omega) (by simp;omega)
  intro x hx
  simp at hx
  rcases hx with hx|hx
  ·exact h01 x hx
  ·exact .inr hx
theorem XQ(a:ByteArray)(hp:lQ a)(d:Nat):∀i:Nat,a.size-i=d→i≤a.size→
 Ev (fun k=>aD.l0 k a (jh a i) i) (nZ a):=by
 have hsz:=hp.1
 induction d with
 |zero=>
  intro i hd hi
  have e:i=a.size:=by omega
  refine Ev.step (fun k=>by rw[aD.l0]) ?_
  refine Ev.neg (by omega) ?_
  rw[e]
  have hl:=uh a a.size
  exact XP _ _ (YG a _) (by omega) rfl
 |succ d ih=>
  intro i hd hi
  have hb:=kg a i
  have hpl:=hp.2 i (by omega)
  have hl:=uh a i
  have hih:=ih (i+1) (by omega) (by omega)
  rw[jh]at hih
  unfold nK at hih
  refine Ev.step (fun k=>by rw[aD.l0]) ?_
  refine EvQ.ev (EvQ.pos (by omega) (EvQ.pos (by omega) (EvQ.bindE (I6 _ hb.1 hb.2) ?_)))
  rw[dP _ (by omega) (by omega:(i:Int)+1<_),show((i:Int)+1)=((i+1:Nat):Int) by omega]
  refine EvQ.ite (fun h=>?_) (fun h=>?_)
  ·rw[if_pos h]at hih
   refine EvQ.bindE (Rn _ hpl.1 (by omega)) ?_
   refine EvQ.pos (by rw[mr];omega) (EvQ.of_ev hih rfl)
  ·rw[if_neg h]at hih
   rw[dP (96+_) (by omega) (by omega),dP _ (by omega) (by omega)]
   refine EvQ.bindE (Ro _ (by omega) (by omega)) ?_
   refine EvQ.pos (by rw[mr];omega) (EvQ.of_ev hih rfl)
theorem XR(a:ByteArray)(hp:lQ a):Ev (fun k=>aD.f k a) (nZ a):=by
 unfold aD.f
 exact XQ a hp a.size 0 (by omega) (by omega)
theorem Kq:∀c:Fin 17,∀h:Fin 2,aU.f 20 (c.val:Int) 7 (h.val:Int)=some (strOfNums [128*(h.val:Int)+(c.val:Int)]):=by decide+kernel
theorem CO(c h:Int)(h0:0≤c)(h1:c≤16)(h2:0≤h)(h3:h≤1):Ev (fun k=>aU.f k c 7 h) (strOfNums [128*h+c]):=by
 obtain⟨n,rfl⟩:=Int.eq_ofNat_of_zero_le h0
 obtain⟨m,rfl⟩:=Int.eq_ofNat_of_zero_le h2
 exact Ev.of (fun k=>aU.mono _ _ _ k) (Kq ⟨n,by omega⟩ ⟨m,by omega⟩)
theorem yI(a:ByteArray)(hp:lQ a):Ev (fun k=>eZ.f k a) (wrB a):=by
 have h14:=Co hp
 have h16:=hp.1
 unfold eZ.f
 refine EvQ.ev (EvQ.bindE (XR a hp) ?_)
 unfold wrB
 refine EvQ.ite (fun hlt=>?_) (fun hlt=>?_)
 ·refine EvQ.bindE (CO _ 1 (by omega) (by omega) (by omega) (by omega)) (EvQ.pos (by rw[gu];simp;omega) (EvQ.now ?_))
  rw[if_pos (by omega)];rfl
 ·refine EvQ.bindE (CO _ 0 (by omega) (by omega) (by omega) (by omega)) (EvQ.pos (by rw[gu];simp;omega) (EvQ.now ?_))
  rw[if_neg (by omega)]
  simp
def one(x:bg):Int:=(x.f0.size:Int)+(x.f1.size:Int)+4
def jy:List bg→Int
 |[]=>0
 |x::l=>one x+jy l
def fO(x:bg):Bool:=j6 x.f0&&j6 x.f1&&decide (x.f0.size≠0)
def jD(l:List bg):Bool:=l.all (fun x=>fO x&& !x.f2)
def eH(l:List bg)(m:Int):Bool:=decide (0≤m∧m≤64)&&jD l&&decide (jy l≤m)
def sD:List bg→Int→List bg
 |[],_=>[]
 |x::l,m=>if one x≤m then x::sD l (m-one x)else []
def iJ(x:bg):Prop:=x.f0.size≤4000000∧x.f1.size≤4000000
def Small(l:List bg):Prop:=l.length≤4000000∧∀x∈l,iJ x
theorem one_pos(x:bg):4≤one x:=by unfold one;omega
theorem Av(l:List bg):0≤jy l:=by
 induction l with
 |nil=>exact Int.le_refl 0
 |cons x l ih=>unfold jy;have:=one_pos x;omega
theorem XT(l:List bg):4*(l.length:Int)≤jy l:=by
 induction l with
 |nil=>simp[jy]
 |cons x l ih=>unfold jy;have:=one_pos x;simp only[List.length_cons];omega
theorem iJ.one{x:bg}(h:iJ x):one x≤8000004:=by unfold iJ at h;unfold Pure.one;omega
theorem Small.head{x:bg}{l:List bg}(h:Small (x::l)):iJ x:=h.2 x List.mem_cons_self
theorem Small.sub{l l':List bg}(h:Small l)(h1:l'.length≤l.length)(h2:∀x∈l',x∈l):Small l':=⟨by have:=h.1;omega,fun y hy=>h.2 y (h2 y hy)⟩
theorem Small.take{l:List bg}(h:Small l)(n:Nat):Small (l.take n):=h.sub (by simp;omega) (fun x hx=>List.mem_of_mem_take hx)
theorem Small.drop{l:List bg}(h:Small l)(n:Nat):Small (l.drop n):=h.sub (by simp) (fun x hx=>List.mem_of_mem_drop hx)
theorem Small.nil:Small []:=⟨by simp,fun x hx=>by cases hx⟩
theorem P8{l:List bg}(h:∀x∈l,iJ x):jy l≤8000004*(l.length:Int):=by
 induction l with
 |nil=>simp[jy]
 |cons x l ih=>
  have h1:=(h x List.mem_cons_self).one
  have h2:=ih (fun y hy=>h y (List.mem_cons_of_mem _ hy))
  unfold jy
  simp only[List.length_cons]
  omega
theorem Small.size{l:List bg}(h:Small l):0≤jy l∧jy l≤32000016000000:=by
 have:=P8 h.2
 have:=h.1
 exact⟨Av l,by omega⟩
theorem mY{x:bg}(h:fO x=true):x.f0.size≤16∧x.f1.size≤16∧1≤x.f0.size∧lQ x.f0∧lQ x.f1:=by
 unfold fO at h
 simp only[Bool.and_eq_true,decide_eq_true_eq]at h
 have h1:=Mg h.1.1
 have h2:=Mg h.1.2
 exact⟨h1.1,h2.1,by omega,h1,h2⟩
theorem qQ{x:bg}(h:fO x=true):iJ x:=by have:=mY h;unfold iJ;omega
theorem pE(l:List bg)(m:Int):eH l m=true↔0≤m∧m≤64∧jD l=true∧jy l≤m:=by
 unfold eH
 simp only[Bool.and_eq_true,decide_eq_true_eq]
 constructor
 ·rintro⟨⟨⟨h1,h2⟩,h3⟩,h4⟩;exact⟨h1,h2,h3,h4⟩
 ·rintro⟨h1,h2,h3,h4⟩;exact⟨⟨⟨h1,h2⟩,h3⟩,h4⟩
theorem Aw(l:List bg):jD l=true↔∀x∈l,fO x=true∧x.f2=false:=by
 unfold jD
 rw[List.all_eq_true]
 simp[Bool.and_eq_true]
theorem mZ{l:List bg}{m:Int}(h:eH l m=true):Small l∧l.length≤16:=by
 obtain⟨h1,h2,h3,h4⟩:=(pE l m).1 h
 have h5:=XT l
 exact⟨⟨by omega,fun x hx=>qQ ((Aw l).1 h3 x hx).1⟩,by omega⟩
theorem a1I(l:List bg):∀m:Int,jy l≤m→sD l m=l:=by
 induction l with
 |nil=>intro m _;rfl
 |cons x l ih=>
  intro m h
  unfold jy at h
  have:=Av l
  unfold sD
  rw[if_pos (by omega),ih _ (by omega)]
theorem XU(l:List bg):∀m:Int,0≤m→m<jy l→l≠[]∧sD l m=sD l.dropLast m:=by
 induction l with
 |nil=>intro m h0 h;simp[jy]at h;omega
 |cons x l ih=>
  intro m h0 h
  refine⟨by simp,?_⟩
  unfold jy at h
  cases l with
  |nil=>simp only[jy]at h;simp only[List.dropLast_singleton,sD];rw[if_neg (by omega)]
  |cons y l=>
   rw[List.dropLast_cons_cons]
   unfold sD
   by_cases hx:one x≤m
   ·rw[if_pos hx,if_pos hx,(ih (m-one x) (by omega) (by omega)).2]
   ·rw[if_neg hx,if_neg hx]
theorem XV(l:List bg):∀m:Int,0≤m→jy (sD l m)≤m:=by
 induction l with
 |nil=>intro m h;simpa [sD,jy]using h
 |cons x l ih=>
  intro m h
  unfold sD
  by_cases hx:one x≤m
  ·rw[if_pos hx];unfold jy;have:=ih (m-one x) (by omega);omega
  ·rw[if_neg hx];simpa [jy]using h
theorem I7(l:List bg):∀m:Int,sD l m=l.take (sD l m).length:=by
 induction l with
 |nil=>intro m;rfl
 |cons x l ih=>
  intro m
  unfold sD
  by_cases hx:one x≤m
  ·rw[if_pos hx,List.length_cons,List.take_succ_cons,←ih]
  ·rw[if_neg hx];rfl
theorem a1J(l:List bg)(m:Int):(sD l m).length≤l.length:=by
 rw[I7 l m,List.length_take];omega
theorem P9{l:List bg}{m:Int}{x:bg}(h:x∈sD l m):x∈l:=by
 rw[I7 l m]at h
 exact List.mem_of_mem_take h
theorem a9m{l:List bg}{m:Int}(h0:0≤m)(h1:m≤64)(h:jD l=true):eH (sD l m) m=true:=by
 rw[pE]
 refine⟨h0,h1,?_,XV l m h0⟩
 rw[Aw]at h ⊢
 exact fun x hx=>h x (P9 hx)
theorem uG(l:List bg)(i:Nat)(h:i<l.length):aT l (i:Int)=l[i]:=by
 unfold aT
 rw[Int.toNat_natCast,List.getD_eq_getElem?_getD,List.getElem?_eq_getElem h]
 rfl
theorem xh(l:List bg)(i:Nat)(h:i<l.length):l.drop i=aT l (i:Int)::l.drop (i+1):=by
 rw[uG l i h,List.drop_eq_getElem_cons h]
theorem a1K(x:bg)(h:iJ x):om.f x.f0 x.f1 x.f2=some (one x):=by
 unfold iJ at h
 unfold om.f one
 rw[dP ((x.f0.size:Int)+(x.f1.size:Int)) (by omega) (by omega),dP _ (by omega) (by omega)]
theorem XW(l:List bg)(hl:Small l)(d:Nat):∀(i:Nat)(a:Int),l.length-i=d→i≤l.length→0≤a→a≤8000004*(i:Int)→
 Ev (fun k=>dx.l0 k l a i) (a+jy (l.drop i)):=by
 have hlen:=hl.1
 induction d with
 |zero=>
  intro i a hd hi ha ha1
  have e:i=l.length:=by omega
  subst e
  refine Ev.step (fun k=>by rw[dx.l0]) (Ev.neg (by omega) ?_)
  rw[List.drop_length]
  simp only[jy,Int.add_zero]
  exact Ev.now _
 |succ d ih=>
  intro i a hd hi ha ha1
  have hj:i<l.length:=by omega
  have hs:iJ (aT l (i:Int)):=by rw[uG l i hj];exact hl.2 _ (List.getElem_mem hj)
  have h1:=hs.one
  have h2:=one_pos (aT l (i:Int))
  refine Ev.step (fun k=>by rw[dx.l0]) (EvQ.ev (EvQ.pos (by omega) (EvQ.pos (by omega) ?_)))
  rw[a1K _ hs]
  simp only[Option.bind_some]
  rw[dP _ (by omega) (by omega),dP _ (by omega) (by omega),show((i:Int)+1)=((i+1:Nat):Int) by omega,xh l i hj]
  refine EvQ.of_ev (ih (i+1) _ (by omega) (by omega) (by omega) (by omega)) ?_
  simp only[jy]
  omega
theorem BR(l:List bg)(hl:Small l):Ev (fun k=>dx.f k l) (jy l):=by
 unfold dx.f
 have h:=XW l hl l.length 0 0 (by omega) (by omega) (by omega) (by omega)
 rw[List.drop_zero,Int.zero_add]at h
 exact h
theorem a1L(n:Nat):∀(l l2:List bg)(m:Int),l.length=n→Small l→0≤m→Ev (fun k=>dI.l0 k l l2 m) (sD l m,m):=by
 induction n with
 |zero=>
  intro l l2 m hn hl h0
  have e:l=[]:=List.eq_nil_of_length_eq_zero hn
  subst e
  refine Ev.step (fun k=>by rw[dI.l0]) (EvQ.ev (EvQ.bindE (BR [] hl) (EvQ.neg (c:=jy []>m) (show ¬(0:Int)>m by omega) (EvQ.now (Q:=fun x=>x=(sD [] m,m)) rfl))))
 |succ n ih=>
  intro l l2 m hn hl h0
  have hlen:=hl.1
  refine Ev.step (fun k=>by rw[dI.l0]) (EvQ.ev (EvQ.bindE (BR l hl) (EvQ.ite (fun h=>?_) (fun h=>EvQ.now ?_))))
  ·have e1:wrap64 ((l.length:Int)-1)=(n:Int):=by rw[w64 _ (by omega) (by omega)];omega
   simp only[e1]
   refine EvQ.pos (by omega) (EvQ.pos (by omega) ?_)
   obtain⟨h1,h2⟩:=XU l m h0 (by omega)
   rw[Int.toNat_natCast,h2,List.dropLast_eq_take,hn]
   exact EvQ.of_ev (ih _ l2 m (by simp;omega) (hl.take _) h0) rfl
  ·rw[a1I l m (by omega)]
theorem a1M(l:List bg)(m:Int)(hl:Small l)(h0:0≤m):Ev (fun k=>dI.f k l m) (sD l m,m):=by
 have:=hl.1
 unfold dI.f
 simp only[Option.bind_some]
 refine Ev.pos (by simp;omega) ?_
 rw[List.nil_append]
 exact a1L l.length l l m rfl hl h0
theorem xk(a b c:Int):cK.f a b c=some (decide (b≤a∧a≤c)):=by
 unfold cK.f
 by_cases h:a≥b
 ·rw[if_pos h];simp only[show b≤a from h,true_and]
 ·rw[if_neg h];simp only[show ¬b≤a from h,false_and,decide_false]
theorem pR(x:bg)(h:iJ x):Ev (fun k=>eF.f k x.f0 x.f1 x.f2) (fO x):=by
 unfold iJ at h
 unfold eF.f fO
 refine EvQ.ev (EvQ.bindE (kI x.f0 (by omega)) ?_)
 refine EvQ.ite (fun h1=>?_) (fun h1=>EvQ.now (by simp[h1]))
 have e:=qB x.f0
 refine EvQ.ite (fun h2=>EvQ.now ?_) (fun h2=>EvQ.bindE (kI x.f1 (by omega)) (EvQ.now ?_))
 ·rw[h2]at e
  have:x.f0.size=0:=by simpa using e
  simp[this]
 ·have:¬x.f0.size=0:=by
   intro h3
   rw[decide_eq_true h3]at e
   exact h2 (by simpa using e)
  rw[h1]
  simp[this]
theorem Dc(l:List bg)(m:Int)(hl:Small l)(d:Nat):∀i:Nat,l.length-i=d→i≤l.length→
 Ev (fun k=>bO.l0 k i l m) (jD (l.drop i)&&decide (0≤m∧m≤64)&&decide (jy l≤m)):=by
 have hlen:=hl.1
 induction d with
 |zero=>
  intro i hd hi
  have e:i=l.length:=by omega
  subst e
  refine Ev.step (fun k=>by rw[bO.l0]) (Ev.neg (by omega) ?_)
  rw[xk,List.drop_length]
  simp only[Option.bind_some]
  refine EvQ.ev (EvQ.ite (fun h1=>EvQ.bindE (BR l hl) (EvQ.now ?_)) (fun h1=>EvQ.now ?_))
  ·rw[h1];rfl
  ·rw[decide_eq_false (fun h=>h1 (decide_eq_true h))];simp
 |succ d ih=>
  intro i hd hi
  have hj:i<l.length:=by omega
  have hs:iJ (aT l (i:Int)):=by rw[uG l i hj];exact hl.2 _ (List.getElem_mem hj)
  refine Ev.step (fun k=>by rw[bO.l0]) (EvQ.ev (EvQ.pos (by omega) (EvQ.pos (by omega) (EvQ.bindE (pR _ hs) ?_))))
  have e:jD (l.drop i)=((fO (aT l (i:Int))&& !(aT l (i:Int)).f2)&&jD (l.drop (i+1))):=by rw[xh l i hj];rfl
  rw[e]
  refine EvQ.ite (fun h1=>EvQ.ite (fun h2=>EvQ.now (by simp[h2])) (fun h2=>?_)) (fun h1=>EvQ.now (by simp[h1]))
  rw[dP _ (by omega) (by omega),show((i:Int)+1)=((i+1:Nat):Int) by omega]
  refine EvQ.of_ev (ih (i+1) (by omega) (by omega)) ?_
  have h3:(aT l (i:Int)).f2=false:=by simpa using h2
  rw[h1,h3];rfl
theorem Df(l:List bg)(m:Int)(hl:Small l):Ev (fun k=>bO.f k l m) (eH l m):=by
 unfold bO.f
 have h:=Dc l m hl l.length 0 (by omega) (by omega)
 have e:eH l m=(jD (l.drop 0)&&decide (0≤m∧m≤64)&&decide (jy l≤m)):=by
  unfold eH
  rw[List.drop_zero,Bool.and_comm (decide (0≤m∧m≤64))]
 rw[e]
 exact h
theorem of_ev(m:List Int)(p:Int)(xs:List ByteArray)(hm:Bytes m)(hm1:m.length≤2000)(hp:0≤p)(hp1:p≤1000000000)(hx:1≤xs.length):
 EvQ (fun k=>bU.f k m p xs) (fun r=>r.1∈xs∧r.2=p+1):=by
 unfold bU.f
 refine EvQ.bind (kr m p (xs.length:Int) hm hm1 hp hp1 (by omega)) ?_
 rintro⟨c,q⟩ ⟨hc,hc1,rfl⟩
 dsimp only at*
 refine EvQ.pos hc (EvQ.pos hc1 (EvQ.now ⟨?_,rfl⟩))
 unfold M8
 rw[List.getD_eq_getElem?_getD,List.getElem?_eq_getElem (by omega:c.toNat<xs.length)]
 exact List.getElem_mem _
theorem Fa(m:List Int)(p:Int)(xs:List ByteArray)(hm:Bytes m)(hm1:m.length≤2000)(hp:0≤p)(hp1:p≤1000000000)(hx:1≤xs.length)(hs:∀x∈xs,x.size≤18):
 EvQ (fun k=>bU.f k m p xs) (fun r=>r.1.size≤18∧r.2=p+1):=(of_ev m p xs hm hm1 hp hp1 hx).mono fun r h=>⟨hs _ h.1,h.2⟩
theorem rR(m:List Int)(p:Int)(hm:Bytes m)(hm1:m.length≤2000)(hp:0≤p)(hp1:p≤700000000):
 EvQ (fun k=>eT.f k m p) (fun r=>r.1.size≤18∧r.2.1.size≤18∧p≤r.2.2.2∧r.2.2.2≤p+70):=by
 unfold eT.f
 refine EvQ.bind (Fa m p _ hm hm1 hp (by omega) (by simp) (by decide)) ?_
 rintro⟨a,q⟩ ⟨ha,rfl⟩
 dsimp only at*
 refine EvQ.bind (Fa m _ _ hm hm1 (by omega) (by omega) (by simp) (by decide)) ?_
 rintro⟨b,q⟩ ⟨hb,rfl⟩
 dsimp only at*
 refine EvQ.bind (kr m _ 8 hm hm1 (by omega) (by omega) (by omega)) ?_
 rintro⟨c,q⟩ ⟨hc,hc1,rfl⟩
 dsimp only at*
 refine EvQ.bind (kr m _ 24 hm hm1 (by omega) (by omega) (by omega)) ?_
 rintro⟨d,q⟩ ⟨hd,hd1,rfl⟩
 dsimp only at*
 refine EvQ.ite (fun h=>?_) (fun h=>EvQ.ite (fun h=>?_) (fun h=>EvQ.now ⟨ha,hb,by dsimp only;omega,by dsimp only;omega⟩))
 ·refine EvQ.bind (Fa m _ _ hm hm1 (by omega) (by omega) (by simp) (by decide)) ?_
  rintro⟨e,q⟩ ⟨he,rfl⟩
  exact EvQ.now ⟨he,hb,by dsimp only;omega,by dsimp only;omega⟩
 ·refine EvQ.bind (F7 m _ hm hm1 (by omega) (by omega)) ?_
  rintro⟨e,q⟩ ⟨he,h1,h2⟩
  dsimp only at*
  exact EvQ.now ⟨ha,he,by dsimp only;omega,by dsimp only;omega⟩
theorem Pb(l:List bg)(m:Int)(x:bg)(hl:Small (x::l))(h0:0≤m):Ev (fun k=>dS.f k l m x.f0 x.f1 x.f2) (sD ((⟨x.f0,x.f1,false⟩:bg)::l) m,m):=by
 have hs:Small ((⟨x.f0,x.f1,false⟩:bg)::l):=⟨hl.1,fun y hy=>by
  rcases List.mem_cons.1 hy with h|h
  ·subst h;exact hl.head
  ·exact hl.2 y (List.mem_cons_of_mem _ h)⟩
 have hlen:=hl.1
 simp only[List.length_cons]at hlen
 unfold dS.f
 simp only[Option.bind_some]
 refine Ev.pos (by simp only[List.length_singleton];omega) ?_
 exact EvQ.ev (EvQ.bindE (a1M _ m hs h0) (EvQ.now rfl))
def Fb(l:List bg):Prop:=∀x∈l,x.f0.size≤18∧x.f1.size≤18
theorem Fb.small{l:List bg}(h:Fb l)(hl:l.length≤4000000):Small l:=⟨hl,fun x hx=>by have:=h x hx;unfold iJ;omega⟩
theorem Pf(m:List Int)(hm:Bytes m)(hm1:m.length≤2000)(n:Nat):∀(p:Int)(l:List bg)(mx:Int),0≤p→p+100*n≤600000000→Fb l→l.length+n≤100→0≤mx→mx≤64→
 EvQ (fun k=>bA.l0 k n m p l mx) (fun r=>Fb r.1∧r.1.length≤103∧ -1≤r.2.1∧r.2.1≤65∧p≤r.2.2∧r.2.2≤p+100*n+300):=by
 induction n with
 |zero=>
  intro p l mx hp hp1 hd hl h0 h1
  refine EvQ.step (fun k=>by rw[bA.l0]) (EvQ.neg (by omega) (EvQ.bind (kr m p 24 hm hm1 hp (by omega) (by omega)) ?_))
  rintro⟨a,q⟩ ⟨ha,ha1,rfl⟩
  dsimp only at*
  refine EvQ.ite (fun h=>?_) (fun h=>EvQ.ite (fun h=>?_) (fun h=>EvQ.now ⟨hd,by dsimp only;omega,by dsimp only;omega,by dsimp only;omega,by dsimp only;omega,by dsimp only;omega⟩))
  ·simp only[Option.bind_some]
   refine EvQ.bind (kr m _ 3 hm hm1 (by omega) (by omega) (by omega)) ?_
   rintro⟨b,q⟩ ⟨hb,hb1,rfl⟩
   dsimp only at*
   refine EvQ.pos hb (EvQ.pos (by simpa using hb1) (EvQ.now ?_))
   have hr: -1≤rd ([(-1),65,3]:List Int) b∧rd ([(-1),65,3]:List Int) b≤65:=by
    obtain⟨c,rfl⟩:=Int.eq_ofNat_of_zero_le hb
    have hc:c=0∨c=1∨c=2:=by omega
    rcases hc with rfl|rfl|rfl<;>decide
   exact⟨hd,by dsimp only;omega,hr.1,hr.2,by dsimp only;omega,by dsimp only;omega⟩
  ·refine EvQ.bind (rR m _ hm hm1 (by omega) (by omega)) ?_
   rintro⟨a0,a1,a2,q0⟩ ⟨b0,b1,b2,b3⟩
   dsimp only at*
   refine EvQ.bind (rR m _ hm hm1 (by omega) (by omega)) ?_
   rintro⟨c0,c1,c2,q1⟩ ⟨d0,d1,d2,d3⟩
   dsimp only at*
   refine EvQ.bind (rR m _ hm hm1 (by omega) (by omega)) ?_
   rintro⟨e0,e1,e2,q2⟩ ⟨f0,f1,f2,f3⟩
   dsimp only at*
   simp only[Option.bind_some]
   refine EvQ.pos (by simp only[List.length_cons,List.length_nil];omega) (EvQ.now ⟨?_,?_,?_,?_,?_,?_⟩)
   ·intro x hx
    rcases List.mem_append.1 hx with h|h
    ·exact hd x h
    ·simp only[List.mem_cons,List.not_mem_nil,or_false]at h
     rcases h with rfl|rfl|rfl<;>exact⟨by assumption,by assumption⟩
   ·simp only[List.length_append,List.length_cons,List.length_nil];omega
   ·dsimp only;omega
   ·dsimp only;omega
   ·dsimp only;omega
   ·dsimp only;omega
 |succ n ih=>
  intro p l mx hp hp1 hd hl h0 h1
  have e1:wrap64 (((n+1:Nat):Int)-1)=(n:Int):=by rw[dP _ (by omega) (by omega)];omega
  refine EvQ.step (fun k=>by rw[bA.l0]) ?_
  simp only[e1]
  refine EvQ.pos (by omega) (EvQ.bind (rR m p hm hm1 hp (by omega)) ?_)
  rintro⟨a0,a1,a2,q0⟩ ⟨b0,b1,b2,b3⟩
  dsimp only at*
  have hs:iJ (⟨a0,a1,a2⟩:bg):=by unfold iJ;dsimp only;omega
  have hsl:Small ((⟨a0,a1,a2⟩:bg)::l):=⟨by simp only[List.length_cons];omega,fun y hy=>by
   rcases List.mem_cons.1 hy with h|h
   ·subst h;exact hs
   ·have:=hd y h;unfold iJ;omega⟩
  refine EvQ.bindE (pR (⟨a0,a1,a2⟩:bg) hs) (EvQ.ite (fun h=>?_) (fun h=>?_))
  ·refine EvQ.bindE (Pb l mx (⟨a0,a1,a2⟩:bg) hsl h0) ?_
   have hlen:=a1J ((⟨a0,a1,false⟩:bg)::l) mx
   simp only[List.length_cons]at hlen
   refine(ih q0 _ mx (by omega) (by omega) (fun x hx=>?_) (by dsimp only;omega) h0 h1).mono ?_
   ·rcases List.mem_cons.1 (P9 hx)with h|h
    ·subst h;exact⟨b0,b1⟩
    ·exact hd x h
   ·rintro⟨r0,r1,r2⟩ ⟨g0,g1,g2,g3,g4,g5⟩
    dsimp only at*
    exact⟨g0,g1,g2,g3,by omega,by omega⟩
  ·refine(ih q0 l mx (by omega) (by omega) hd (by omega) h0 h1).mono ?_
   rintro⟨r0,r1,r2⟩ ⟨g0,g1,g2,g3,g4,g5⟩
   dsimp only at*
   exact⟨g0,g1,g2,g3,by omega,by omega⟩
theorem Pg(m:List Int)(p:Int)(hm:Bytes m)(hm1:m.length≤2000)(hp:0≤p)(hp1:p≤500000000):
 EvQ (fun k=>bA.f k m p) (fun r=>Fb r.1∧r.1.length≤103∧ -1≤r.2.1∧r.2.1≤65∧p≤r.2.2∧r.2.2≤p+1000):=by
 unfold bA.f
 simp only[Option.bind_some]
 refine EvQ.bind (kr m p 5 hm hm1 hp (by omega) (by omega)) ?_
 rintro⟨a,q⟩ ⟨ha,ha1,rfl⟩
 dsimp only at*
 refine EvQ.pos ha (EvQ.pos (by simpa using ha1) (EvQ.bind (kr m _ 7 hm hm1 (by omega) (by omega) (by omega)) ?_))
 rintro⟨b,q⟩ ⟨hb,hb1,rfl⟩
 dsimp only at*
 have hr:0≤rd ([64,64,40,20,0]:List Int) a∧rd ([64,64,40,20,0]:List Int) a≤64:=by
  obtain⟨c,rfl⟩:=Int.eq_ofNat_of_zero_le ha
  have hc:c=0∨c=1∨c=2∨c=3∨c=4:=by omega
  rcases hc with rfl|rfl|rfl|rfl|rfl<;>decide
 obtain⟨n,rfl⟩:=Int.eq_ofNat_of_zero_le hb
 refine(Pf m hm hm1 n (p+1+1) [] _ (by omega) (by omega) (fun x hx=>by cases hx) (by simp;omega) hr.1 hr.2).mono ?_
 rintro⟨r0,r1,r2⟩ ⟨g0,g1,g2,g3,g4,g5⟩
 dsimp only at*
 exact⟨g0,g1,g2,g3,by omega,by omega⟩
def lu:List bg:=[(⟨(⟨#[58,112,97,116,104]⟩:ByteArray),(⟨#[]⟩:ByteArray),false⟩:bg),(⟨(⟨#[58,115,116,97,116,117,115]⟩:ByteArray),(⟨#[48]⟩:ByteArray),false⟩:bg),(⟨(⟨#[58,115,116,97,116,117,115]⟩:ByteArray),(⟨#[49,50]⟩:ByteArray),false⟩:bg),(⟨(⟨#[107,105,110,100]⟩:ByteArray),(⟨#[116,101,120,116]⟩:ByteArray),false⟩:bg),(⟨(⟨#[115,105,122,101]⟩:ByteArray),(⟨#[]⟩:ByteArray),false⟩:bg),(⟨(⟨#[116,101]⟩:ByteArray),(⟨#[116,114,97,105,108,101,114,115]⟩:ByteArray),false⟩:bg)]
theorem ny:lu.length=6:=rfl
def pX(a b:ByteArray)(x:bg):Bool:=x.f0.toList==a.toList&&x.f1.toList==b.toList
def I8(a:ByteArray)(x:bg):Bool:=x.f0.toList==a.toList
theorem BS(a b:ByteArray)(x:bg):pX a b x=true↔x.f0=a∧x.f1=b:=by
 unfold pX
 simp only[Bool.and_eq_true,beq_iff_eq,toList_inj]
theorem I9(a:ByteArray)(x:bg):I8 a x=true↔x.f0=a:=by
 unfold I8
 simp only[beq_iff_eq,toList_inj]
def j3(q:bg→Bool):List bg→Int→Int
 |[],_=> -1
 |x::l,i=>if q x=true then i else j3 q l (i+1)
theorem xV(q:bg→Bool)(l:List bg):∀i:Int,0≤i→ -1≤j3 q l i∧j3 q l i<i+l.length∧(0≤j3 q l i→i≤j3 q l i):=by
 induction l with
 |nil=>intro i hi;unfold j3;simp;omega
 |cons x l ih=>
  intro i hi
  unfold j3
  by_cases h:q x=true
  ·rw[if_pos h];simp only[List.length_cons];omega
  ·rw[if_neg h]
   obtain⟨h1,h2,h3⟩:=ih (i+1) (by omega)
   simp only[List.length_cons]
   refine⟨h1,by omega,fun h4=>?_⟩
   have:=h3 h4
   omega
def Ay(l:List bg)(a b:ByteArray):Int×Bool:=
 if 0≤j3 (pX a b) (lu++l) 0 then(j3 (pX a b) (lu++l) 0+1,true)else(j3 (I8 a) (lu++l) 0+1,false)
def Kr(c bits:Int):ByteArray:=if bits=4 then(if c<15 then strOfNums [16+c]else strOfNums [31,c-15])else if bits=6 then strOfNums [64+c]else strOfNums [128+c]
def jM(h:List bg):Bool:=h.all fO&&decide (h.length≤6)
theorem oO(h:List bg):jM h=true↔(∀x∈h,fO x=true)∧h.length≤6:=by
 unfold jM
 simp only[Bool.and_eq_true,decide_eq_true_eq,List.all_eq_true]
theorem BU(c bits:Int):(Kr c bits).size≤2∧1≤(Kr c bits).size:=by
 unfold Kr
 repeat' split
 all_goals rw[gu];simp
theorem Ph(l:List bg)(a b:ByteArray):0≤(Ay l a b).1∧(Ay l a b).1≤6+(l.length:Int)∧((Ay l a b).2=true→1≤(Ay l a b).1):=by
 have r2:=xV (pX a b) (lu++l) 0 (by omega)
 have r1:=xV (I8 a) (lu++l) 0 (by omega)
 rw[List.length_append,ny]at r1 r2
 unfold Ay
 split
 ·exact⟨by dsimp only;omega,by dsimp only;omega,fun _=>by dsimp only;omega⟩
 ·exact⟨by dsimp only;omega,by dsimp only;omega,fun h=>by cases h⟩
theorem a1N:∀c:Fin 24,aU.f 20 (c.val:Int) 4 1=some (Kr (c.val:Int) 4):=by decide+kernel
theorem a1O:∀c:Fin 24,aU.f 20 (c.val:Int) 6 1=some (Kr (c.val:Int) 6):=by decide+kernel
theorem a1P:∀c:Fin 24,aU.f 20 (c.val:Int) 7 1=some (Kr (c.val:Int) 7):=by decide+kernel
theorem Rp(c bits:Int)(h0:0≤c)(h1:c≤23)(hb:bits=4∨bits=6∨bits=7):Ev (fun k=>aU.f k c bits 1) (Kr c bits):=by
 obtain⟨n,rfl⟩:=Int.eq_ofNat_of_zero_le h0
 rcases hb with rfl|rfl|rfl
 ·exact Ev.of (fun k=>aU.mono _ _ _ k) (a1N ⟨n,by omega⟩)
 ·exact Ev.of (fun k=>aU.mono _ _ _ k) (a1O ⟨n,by omega⟩)
 ·exact Ev.of (fun k=>aU.mono _ _ _ k) (a1P ⟨n,by omega⟩)
theorem Fe(x:bg)(p bits:Int)(hx:fO x=true)(h0:0≤p)(h1:p≤23)(hb:bits=4∨bits=6∨bits=7):
 Ev (fun k=>dR.f k p bits 1 x.f0 x.f1 x.f2) (Kr p bits++(if p=0 then wrB x.f0 else⟨#[]⟩)):=by
 obtain⟨_,_,_,p0,p1⟩:=mY hx
 have s0:=Bl p0
 have s2:=BU p bits
 unfold dR.f
 refine EvQ.ev (EvQ.ite (fun h=>?_) (fun h=>?_))
 ·rw[if_neg (by omega),mU]
  exact EvQ.bindE (Rp p bits h0 h1 hb) (EvQ.now rfl)
 ·have e:p=0:=by omega
  subst e
  rw[if_pos rfl]
  exact EvQ.bindE (Rp 0 bits h0 h1 hb) (EvQ.bindE (yI x.f0 p0) (EvQ.pos (by omega) (EvQ.now rfl)))
theorem Kt(q:bg→Bool)(x:bg)(l:List bg)(i:Int):j3 q (x::l) i=if q x=true then i else j3 q l (i+1):=rfl
theorem XY(l:List bg)(a b:ByteArray)(c:Bool)(nm:Int)(hl:l.length≤5000000)(d:Nat):∀i:Nat,l.length-i=d→i≤l.length→
 Ev (fun k=>bE.l1 k l nm i a b c) (if 0≤j3 (pX a b) (l.drop i) i then(j3 (pX a b) (l.drop i) i+1,true)else(nm,false)):=by
 induction d with
 |zero=>
  intro i hd hi
  refine Ev.step (fun k=>by rw[bE.l1]) (EvQ.ev (EvQ.neg (by omega) (EvQ.now ?_)))
  rw[List.drop_eq_nil_of_le (by omega)]
  rfl
 |succ d ih=>
  intro i hd hi
  have hj:i<l.length:=by omega
  have ew:wrap64 ((i:Int)+1)=((i+1:Nat):Int):=by rw[dP _ (by omega) (by omega)];omega
  rw[xh l i hj]
  refine Ev.step (fun k=>by rw[bE.l1]) (EvQ.ev (EvQ.pos (by omega) (EvQ.pos (by omega) ?_)))
  simp only[ew]
  generalize aT l (i:Int)=x
  rw[Kt]
  have hgo:pX a b x=false→EvQ (fun k=>bE.l1 k l nm ((i+1:Nat):Int) a b c) (fun r=>r=if 0≤(if pX a b x=true then(i:Int)else j3 (pX a b) (l.drop (i+1)) ((i:Int)+1))then((if pX a b x=true then(i:Int)else j3 (pX a b) (l.drop (i+1)) ((i:Int)+1))+1,true)else(nm,false)):=by
   intro h
   simp only[h,Bool.false_eq_true,if_false]
   exact EvQ.of_ev (ih (i+1) (by omega) (by omega)) (by rw[show(((i+1:Nat):Int))=(i:Int)+1 by omega])
  refine EvQ.ite (fun h1=>EvQ.ite (fun h2=>EvQ.now ?_) (fun h2=>hgo ?_)) (fun h1=>hgo ?_)
  ·rw[toList_inj]at h1 h2
   rw[if_pos ((BS a b x).2 ⟨h1,h2⟩),if_pos (by omega)]
   rw[show((i+1:Nat):Int)=(i:Int)+1 by omega]
  ·rw[toList_inj]at h1 h2
   cases hs:pX a b x with
   |false=>rfl
   |true=>exact absurd ((BS a b x).1 hs).2 h2
  ·rw[toList_inj]at h1
   cases hs:pX a b x with
   |false=>rfl
   |true=>exact absurd ((BS a b x).1 hs).1 h1
theorem XZ(l:List bg)(a b:ByteArray)(c:Bool)(hl:l.length≤5000000)(n:Nat):∀nm:Int,n≤l.length→nm=j3 (I8 a) (l.drop n) n+1→
 Ev (fun k=>bE.l0 k l nm ((n:Int)-1) a b c) (if 0≤j3 (pX a b) l 0 then(j3 (pX a b) l 0+1,true)else(j3 (I8 a) l 0+1,false)):=by
 induction n with
 |zero=>
  intro nm hn hnm
  refine Ev.step (fun k=>by rw[bE.l0]) (EvQ.ev (EvQ.neg (by omega) ?_))
  have h:=XY l a b c nm hl l.length 0 (by omega) (by omega)
  rw[List.drop_zero]at h hnm
  rw[hnm]at h ⊢
  exact EvQ.of_ev h rfl
 |succ n ih=>
  intro nm hn hnm
  have hj:n<l.length:=by omega
  have e1:((n+1:Nat):Int)-1=(n:Int):=by omega
  have e2:wrap64 ((n:Int)-1)=(n:Int)-1:=w64 _ (by omega) (by omega)
  have e3:wrap64 ((n:Int)+1)=(n:Int)+1:=w64 _ (by omega) (by omega)
  rw[e1]
  refine Ev.step (fun k=>by rw[bE.l0]) (EvQ.ev (EvQ.pos (by omega) (EvQ.pos (by omega) (EvQ.pos (by omega) ?_))))
  simp only[e2,e3]
  have hdr:=xh l n hj
  refine EvQ.ite (fun h1=>EvQ.of_ev (ih _ (by omega) ?_) rfl) (fun h1=>EvQ.of_ev (ih _ (by omega) ?_) rfl)
  ·rw[toList_inj]at h1
   rw[hdr]
   unfold j3
   rw[if_pos ((I9 a _).2 h1)]
  ·rw[toList_inj]at h1
   rw[hdr]
   unfold j3
   rw[if_neg (fun h=>h1 ((I9 a _).1 h)),hnm]
   rw[show((n+1:Nat):Int)=(n:Int)+1 by omega]
theorem Y0(l:List bg)(m:Int)(a b:ByteArray)(c:Bool)(hl:l.length≤4000000):Ev (fun k=>bE.f k l m a b c) (Ay l a b):=by
 have hall:ja.f l m=some (lu++l):=by
  unfold ja.f
  rw[show jP.f=some lu from rfl]
  simp only[Option.bind_some]
  rw[if_pos (by rw[ny];omega)]
 unfold bE.f
 rw[hall]
 simp only[Option.bind_some]
 rw[w64 _ (by rw[List.length_append,ny];omega) (by rw[List.length_append,ny];omega)]
 exact XZ (lu++l) a b c (by rw[List.length_append,ny];omega) (lu++l).length 0 (Nat.le_refl _) (by rw[List.drop_length];rfl)
theorem Ff(h:List bg)(hh:h.length≤5000000)(hs:∀x∈h,iJ x)(d:Nat):∀i:Nat,h.length-i=d→i≤h.length→Ev (fun k=>bn.l0 k h i) ((h.drop i).all fO&&decide (h.length≤6)):=by
 induction d with
 |zero=>
  intro i hd hi
  refine Ev.step (fun k=>by rw[bn.l0]) (EvQ.ev (EvQ.neg (by omega) (EvQ.now ?_)))
  rw[List.drop_eq_nil_of_le (by omega)]
  simp only[List.all_nil,Bool.true_and,decide_eq_decide]
  omega
 |succ d ih=>
  intro i hd hi
  have hj:i<h.length:=by omega
  have ew:wrap64 ((i:Int)+1)=((i+1:Nat):Int):=by rw[dP _ (by omega) (by omega)];omega
  rw[xh h i hj]
  have hmem:aT h (i:Int)∈h:=by rw[uG h i hj];exact List.getElem_mem hj
  refine Ev.step (fun k=>by rw[bn.l0]) (EvQ.ev (EvQ.pos (by omega) (EvQ.pos (by omega) ?_)))
  simp only[ew]
  generalize aT h (i:Int)=x at*
  refine EvQ.bindE (pR x (hs x hmem)) (EvQ.ite (fun h1=>?_) (fun h1=>EvQ.now (by simp[h1])))
  refine EvQ.of_ev (ih (i+1) (by omega) (by omega)) ?_
  rw[List.all_cons,h1,Bool.true_and]
theorem nW(h:List bg)(hh:h.length≤5000000)(hs:∀x∈h,iJ x):Ev (fun k=>bn.f k h) (jM h):=by
 unfold bn.f jM
 have h1:=Ff h hh hs h.length 0 (by omega) (by omega)
 rwa[List.drop_zero]at h1
theorem a1Q:∀c:Fin 256,bB.f 10 (c.val:Int) 8=some (lC (c.val:Int) 8):=by decide+kernel
theorem Rq(c:Int)(h0:0≤c)(h1:c<256):Ev (fun k=>bB.f k c 8) (lC c 8):=by
 obtain⟨n,rfl⟩:=Int.eq_ofNat_of_zero_le h0
 exact Ev.of (fun k=>bB.mono _ _ k) (a1Q ⟨n,by omega⟩)
theorem Pj(x:Int)(l:List Int):strOfNums (x::l)=strOfNums [x]++strOfNums l:=Eo [x] l
def Y1(s:ByteArray)(r:List Int)(ones:Bool):ByteArray×Bool:=(s,ones&&(decide (r.length<8)&&decide (s.size≤16)))
theorem Pk(r:List Int)(hr:r.length≤1000)(s:ByteArray)(d:Nat):∀(i:Nat)(ones:Bool),r.length-i=d→i≤r.length→
 Ev (fun k=>ax.l2 k r s ones i) (Y1 s r (ones&&(r.drop i).all (· ==1))):=by
 induction d with
 |zero=>
  intro i ones hd hi
  have e:i=r.length:=by omega
  refine Ev.step (fun k=>by rw[ax.l2]) ?_
  refine Ev.neg (by omega) ?_
  rw[e,List.drop_length]
  unfold Y1
  cases ones with
  |true=>
   refine EvQ.ev (EvQ.pos rfl (EvQ.ite (fun h=>EvQ.now ?_) (fun h=>EvQ.now ?_)))
   ·rw[decide_eq_true (show r.length<8 by omega)];simp;omega
   ·rw[decide_eq_false (show ¬r.length<8 by omega)];simp
  |false=>exact EvQ.ev (EvQ.neg (by decide) (EvQ.now (by simp)))
 |succ d ih=>
  intro i ones hd hi
  refine Ev.step (fun k=>by rw[ax.l2]) ?_
  have hi2:i<r.length:=by omega
  have e1:(r.drop i).all (· ==1)=(rd r i==1&&(r.drop (i+1)).all (· ==1)):=by
   rw[List.drop_eq_getElem_cons hi2,List.all_cons]
   have:rd r i=r[i]:=by simp[rd,List.getD_eq_getElem?_getD,List.getElem?_eq_getElem hi2]
   rw[this]
  rw[e1]
  have e2:wrap64 ((i:Int)+1)=((i+1:Nat):Int):=by rw[dP _ (by omega) (by omega)];omega
  simp only[e2]
  refine EvQ.ev (EvQ.pos (by omega) ?_)
  cases ones with
  |true=>
   refine EvQ.pos rfl (EvQ.pos (by omega) (EvQ.of_ev (ih (i+1) _ (by omega) (by omega)) ?_))
   simp
  |false=>
   refine EvQ.neg (by decide) (EvQ.of_ev (ih (i+1) _ (by omega) (by omega)) ?_)
   simp
theorem rT(r:List Int)(hr:r.length≤1000)(s:ByteArray):Ev (fun k=>ax.j2 k r s) (Y1 s r (r.all (· ==1))):=by
 refine Ev.step (fun k=>by rw[ax.j2]) ?_
 have:=Pk r hr s r.length 0 true (by omega) (by omega)
 rw[Bool.true_and,List.drop_zero]at this
 exact this
theorem acZ(p:Int):bP.f (wrap64 (bt (⟨#[101,116,97,111,105,110,115,114,104,108,48,49,50,51,52,53,54,55,56,57,100,99,117,109,102,112,103,119,121,98,118,107,120,106,113,122,58,47,45]⟩:ByteArray) p))=some (strOfNums [kU p]):=by
 have hb:=kg (⟨#[101,116,97,111,105,110,115,114,104,108,48,49,50,51,52,53,54,55,56,57,100,99,117,109,102,112,103,119,121,98,118,107,120,106,113,122,58,47,45]⟩:ByteArray) p
 unfold bP.f
 rw[dP _ hb.1 (by omega),Int.emod_eq_of_lt hb.1 hb.2]
 rfl
theorem Pm(f:Nat):∀(R:List Int)(s:ByteArray),Bits R→R.length<5*f+5→s.size+R.length≤900→
 Ev (fun k=>ax.l1 k R s) (Y1 (s++strOfNums ((og f R).1.map kU)) (og f R).2 ((og f R).2.all (· ==1))):=by
 induction f with
 |zero=>
  intro R s hb hl hs
  refine Ev.step (fun k=>by rw[ax.l1]) (Ev.neg (by omega) ?_)
  have:=rT R (by omega) s
  rw[og]
  simp only[List.map_nil,Di,mU]
  exact this
 |succ f ih=>
  intro R s hb hl hs
  refine Ev.step (fun k=>by rw[ax.l1]) ?_
  rw[og]
  by_cases h5:R.length<5
  ·rw[if_pos h5]
   simp only[List.map_nil,Di,mU]
   exact Ev.neg (by omega) (rT R (by omega) s)
  ·rw[if_neg h5]
   have hn5:=yU _ (hb.take 5)
   have hp5:=a3x (R.take 5).length (by rw[List.length_take];omega)
   refine EvQ.ev (EvQ.pos (by omega) (EvQ.pos (by omega) (EvQ.bindE (F9 _ (hb.take 5) (by rw[List.length_take];omega)) ?_)))
   by_cases h24:jV (R.take 5)<24
   ·rw[if_pos h24]
    refine EvQ.neg (by omega) (EvQ.neg (by omega) (EvQ.pos (by omega) (EvQ.pos (by omega) ?_)))
    rw[acZ]
    simp only[Option.bind_some]
    refine EvQ.pos (by rw[gu];simp;omega) ?_
    have:=ih (R.drop 5) (s++strOfNums [kU (jV (R.take 5))]) (hb.drop 5) (by rw[List.length_drop];omega) (by rw[bf,gu,List.length_drop];simp;omega)
    refine EvQ.of_ev this ?_
    try dsimp only
    rw[List.map_cons,Pj _ (List.map kU (og f (R.drop 5)).1),ByteArray.append_assoc]
   ·rw[if_neg h24]
    refine EvQ.pos (by omega) ?_
    by_cases h7:R.length<7
    ·rw[if_pos h7]
     simp only[List.map_nil,Di,mU]
     exact EvQ.pos (by omega) (EvQ.of_ev (rT R (by omega) s) rfl)
    ·rw[if_neg h7]
     have hn7:=ajA R hb (by omega)
     have hr7:=yU _ (hb.take 7)
     have hp7:=a3x (R.take 7).length (by rw[List.length_take];omega)
     refine EvQ.neg (by omega) (EvQ.pos (by omega) (EvQ.bindE (F9 _ (hb.take 7) (by rw[List.length_take];omega)) ?_))
     have e7:wrap64 (wrap64 (jV (R.take 7)-96)+24)=jV (R.take 7)-72:=by
      rw[w64 (jV (R.take 7)-96) (by omega) (by omega),w64 _ (by omega) (by omega)];omega
     simp only[e7]
     by_cases h39:jV (R.take 7)-72≥39
     ·rw[if_pos h39]
      simp only[List.map_nil,Di,mU]
      exact EvQ.pos h39 (EvQ.of_ev (rT R (by omega) s) rfl)
     ·rw[if_neg h39]
      refine EvQ.neg h39 (EvQ.pos (by omega) (EvQ.pos (by omega) ?_))
      rw[acZ]
      simp only[Option.bind_some]
      refine EvQ.pos (by rw[gu];simp;omega) ?_
      have:=ih (R.drop 7) (s++strOfNums [kU (jV (R.take 7)-72)]) (hb.drop 7) (by rw[List.length_drop];omega) (by rw[bf,gu,List.length_drop];simp;omega)
      refine EvQ.of_ev this ?_
      try dsimp only
      rw[List.map_cons,Pj _ (List.map kU (og f (R.drop 7)).1),ByteArray.append_assoc]
theorem Pn(b:ByteArray)(hs:b.size≤16)(d:Nat):∀i:Nat,b.size-i=d→i≤b.size→
 Ev (fun k=>ax.l0 k b (jW b i) i) (Y1 (Yl b) (og 30 (jW b b.size)).2 ((og 30 (jW b b.size)).2.all (· ==1))):=by
 induction d with
 |zero=>
  intro i hd hi
  have e:i=b.size:=by omega
  refine Ev.step (fun k=>by rw[ax.l0]) (Ev.neg (by omega) ?_)
  rw[e]
  have:=Pm 30 (jW b b.size) (⟨#[]⟩:ByteArray) (Et b _) (by rw[ol];omega) (by rw[ol,lT];omega)
  rw[Gm]at this
  exact this
 |succ d ih=>
  intro i hd hi
  have hb:=kg b i
  have e2:wrap64 ((i:Int)+1)=((i+1:Nat):Int):=by rw[dP _ (by omega) (by omega)];omega
  refine Ev.step (fun k=>by rw[ax.l0]) ?_
  simp only[e2]
  rw[dP (bt b i) hb.1 (by omega)]
  refine EvQ.ev (EvQ.pos (by omega) (EvQ.pos (by omega) (EvQ.bindE (Rq _ hb.1 hb.2) (EvQ.pos (by rw[ol,mr];omega) (EvQ.of_ev (ih (i+1) (by omega) (by omega)) rfl)))))
theorem yJ(b:ByteArray):Ev (fun k=>fG.f k b) (unp b):=by
 unfold fG.f unp
 refine EvQ.ev (EvQ.ite (fun h=>EvQ.now (by rw[if_pos (by omega)])) (fun h=>?_))
 rw[if_neg (by omega)]
 unfold ax.f
 refine EvQ.bindE (Pn b (by omega) b.size 0 (by omega) (by omega)) ?_
 unfold Y1
 try dsimp only
 have hi:=adF b
 have hsz:(Yl b).size=(og 30 (jW b b.size)).1.length:=by unfold Yl;rw[gu,List.length_map]
 have e:(((og 30 (jW b b.size)).2.all (· ==1))&&(decide ((og 30 (jW b b.size)).2.length<8)&&decide ((Yl b).size≤16)))=true↔(j6 (Yl b)=true∧nZ (Yl b)=b):=by
  rw[hi,hsz,Bool.and_eq_true,Bool.and_eq_true,decide_eq_true_iff,decide_eq_true_iff,List.all_eq_true]
  unfold IQ
  simp
 refine EvQ.ite (fun h2=>EvQ.now ?_) (fun h2=>EvQ.now ?_)
 ·rw[if_pos (e.1 h2)]
 ·rw[if_neg (fun h3=>h2 (e.2 h3))]
theorem rU(b:ByteArray)(hs:b.size≤1000000000)(x8 x9:Int)(i:Nat)(h0:127≤x8)(h1:x8≤1000000000000)(h2:0≤x9)(h3:x9≤10000000)(hi:1≤i)(hi2:i≤4)
 (h:i≤3→∀y:Int,127≤y→y≤x8+1280000000→EvQ (fun k=>aI.l0 k b y (128*x9) ((i+1:Nat):Int)) (fun r=>r.2.2=true→r.1>16)):
 EvQ (fun k=>aI.l0 k b x8 x9 i) (fun r=>r.2.2=true→r.1>16):=by
 refine EvQ.step (fun k=>by rw[aI.l0]) (EvQ.ite (fun hlt=>?_) (fun _=>EvQ.step (fun k=>by rw[aI.j1]) (EvQ.neg (by decide) (EvQ.now (by simp)))))
 by_cases h9:i≤3
 ·have hc:=kg b i
  have ht:=nk (wrap64 (bt b i)) 128 (by rw[dP _ (by omega) (by omega)];omega) (by omega)
  have hm0:=Int.mul_nonneg h2 ht.1
  have hm1:x9*Int.tmod (wrap64 (bt b i)) 128≤10000000*128:=Int.mul_le_mul h3 (by omega) ht.1 (by omega)
  have e1:wrap64 (x8+wrap64 (x9*Int.tmod (wrap64 (bt b i)) 128))=x8+x9*Int.tmod (wrap64 (bt b i)) 128:=by
   rw[dP (x9*_) (by omega) (by omega),dP _ (by omega) (by omega)]
  have e2:wrap64 (128*x9)=128*x9:=dP _ (by omega) (by omega)
  have e3:wrap64 ((i:Int)+1)=((i+1:Nat):Int):=by rw[dP _ (by omega) (by omega)];omega
  rw[decide_eq_true (by omega)]
  refine EvQ.step (fun k=>by rw[aI.j1]) ?_
  simp only[e1,e2,e3]
  have hfin:EvQ (fun _=>some (x8+x9*Int.tmod (wrap64 (bt b i)) 128,((i+1:Nat):Int),true)) (fun r=>r.2.2=true→r.1>16):=EvQ.now (by intro _;dsimp only;omega)
  refine EvQ.pos (by trivial) (EvQ.pos (by omega) (EvQ.pos hlt (EvQ.ite (fun _=>EvQ.ite (fun _=>EvQ.ite (fun _=>EvQ.now (by simp)) (fun _=>EvQ.ite (fun _=>EvQ.now (by simp)) (fun _=>hfin))) (fun _=>EvQ.ite (fun _=>EvQ.now (by simp)) (fun _=>hfin))) (fun _=>?_))))
  exact h h9 _ (by omega) (by omega)
 ·rw[decide_eq_false (by omega)]
  exact EvQ.step (fun k=>by rw[aI.j1]) (EvQ.neg (by decide) (EvQ.now (by simp)))
theorem agc:Ev (fun k=>bX.f k 7) 128:=Ev.of (fun k=>bX.mono _ k) (show bX.f 20 7=some 128 by decide+kernel)
theorem Y2:∀c:Fin 256,Int.tmod (wrap64 (c.val:Int)) (wrap64 ((wrap64 (128-1))+1))=(c.val:Int)%128:=by decide+kernel
theorem ap0(c:Int)(h0:0≤c)(h1:c<256):Int.tmod (wrap64 c) (wrap64 ((wrap64 (128-1))+1))=c%128:=by
 obtain⟨n,rfl⟩:=Int.eq_ofNat_of_zero_le h0
 exact Y2 ⟨n,by omega⟩
theorem Rs(b:ByteArray)(hs:b.size≤1000000000):EvQ (fun k=>aI.f k b 7) (a3A b):=by
 unfold aI.f
 refine EvQ.ite (fun h=>?_) (fun h=>?_)
 ·refine EvQ.now ⟨fun _=>rfl,fun h9=>?_⟩
  have:=(jO b).1 h
  omega
 ·have hb:0<b.size:=Nat.pos_of_ne_zero (fun h0=>h ((jO b).2 h0))
  have hc:=kg b 0
  refine EvQ.bindE agc (EvQ.pos (by omega) (EvQ.neg (by decide+kernel) ?_))
  rw[ap0 _ hc.1 hc.2,show wrap64 (128-1)=127 by decide+kernel]
  refine EvQ.ite (fun h1=>EvQ.now ⟨fun _=>by omega,fun _=>⟨fun _=>rfl,fun _=>by omega⟩⟩) (fun h1=>?_)
  have hq:EvQ (fun k=>aI.l0 k b (bt b 0%128) 1 ((1:Nat):Int)) (fun r=>r.2.2=true→r.1>16):=by
   refine rU b hs _ 1 1 (by omega) (by omega) (by omega) (by omega) (by omega) (by omega) (fun _ y hy hy1=>?_)
   refine rU b hs _ _ 2 (by omega) (by omega) (by omega) (by omega) (by omega) (by omega) (fun _ y hy hy1=>?_)
   refine rU b hs _ _ 3 (by omega) (by omega) (by omega) (by omega) (by omega) (by omega) (fun _ y hy hy1=>?_)
   exact rU b hs _ _ 4 (by omega) (by omega) (by omega) (by omega) (by omega) (by omega) (fun h9=>absurd h9 (by omega))
  refine hq.mono ?_
  intro r hr
  exact⟨fun _=>by omega,fun _=>⟨fun h9=>by omega,fun _=>hr⟩⟩
theorem Y3(b:ByteArray)(hs:b.size≤1000000000):Ev (fun k=>bG.f k b) (Eu b):=by
 refine EvQ.ev ?_
 unfold bG.f
 refine EvQ.bind (Rs b hs) ?_
 rintro⟨n,u,t⟩ hr
 have hc:=kg b 0
 have hout:Eu b=(⟨#[]⟩,0,false)→EvQ (fun k=>bG.j0 k b n u true) (fun x=>x=Eu b):=by
  intro h
  exact EvQ.step (fun k=>by rw[bG.j0]) (EvQ.pos rfl (EvQ.now h.symm))
 by_cases h0:b.size=0
 ·have:=hr.1 h0
  dsimp only at this ⊢
  rw[this]
  refine EvQ.neg (by decide) (hout ?_)
  unfold Eu;rw[if_pos h0]
 ·by_cases h1:bt b 0%128<127
  ·have:=(hr.2 (by omega)).1 h1
   simp only[Prod.mk.injEq]at this
   obtain⟨rfl,rfl,rfl⟩:=this
   dsimp only
   refine EvQ.pos rfl ?_
   by_cases h2:bt b 0%128>16
   ·refine EvQ.pos h2 (hout ?_)
    unfold Eu;rw[if_neg h0,if_pos (Or.inl h2)]
   ·refine EvQ.neg h2 ?_
    rw[dP (1+bt b 0%128) (by omega) (by omega)]
    by_cases h3:1+bt b 0%128>b.size
    ·rw[decide_eq_true h3]
     refine hout ?_
     unfold Eu;rw[if_neg h0,if_pos (Or.inr h3)]
    ·rw[decide_eq_false h3]
     have hbs:=GD b (by omega)
     refine EvQ.step (fun k=>by rw[bG.j0]) ?_
     simp only[dP (1+bt b 0%128) (by omega) (by omega)]
     refine EvQ.neg (by decide) (EvQ.pos (by omega) (EvQ.pos (by omega) (EvQ.pos (by omega) (EvQ.pos (by omega) ?_))))
     have hbd:b.extract (1:Int).toNat (1+bt b 0%128).toNat=body b:=rfl
     rw[hbd]
     unfold Eu
     rw[if_neg h0,if_neg (by omega)]
     refine EvQ.ite (fun h4=>?_) (fun h4=>?_)
     ·rw[if_pos h4]
      refine EvQ.bindE (yJ _) (EvQ.ite (fun h5=>EvQ.now ?_) (fun h5=>EvQ.now ?_))
      ·rw[if_pos h5]
      ·rw[if_neg h5]
     ·rw[if_neg h4]
      refine EvQ.bindE (kI _ (by omega)) (EvQ.ite (fun h5=>EvQ.now ?_) (fun h5=>EvQ.now ?_))
      ·rw[if_pos h5]
      ·rw[if_neg h5]
  ·have h2:bt b 0%128=127:=by omega
   have h3:=(hr.2 (by omega)).2 h2
   dsimp only at h3 ⊢
   have hx:Eu b=(⟨#[]⟩,0,false):=by unfold Eu;rw[if_neg h0,if_pos (Or.inl (by omega))]
   exact EvQ.ite (fun h4=>EvQ.pos (h3 h4) (hout hx)) (fun _=>hout hx)
theorem a9n{l:List bg}{m:Int}{x:bg}(hl:eH l m=true)(hx:fO x=true):eH (sD ((⟨x.f0,x.f1,false⟩:bg)::l) m) m=true:=by
 obtain⟨h0,h1,h2,_⟩:=(pE l m).1 hl
 refine a9m h0 h1 ?_
 unfold jD at h2 ⊢
 rw[List.all_cons,h2,Bool.and_true,Bool.and_eq_true]
 exact⟨hx,rfl⟩
theorem ad1(l:List bg)(m:Int)(x:bg)(hl:eH l m=true)(hx:fO x=true):EvQ (fun k=>dS.f k l m x.f0 x.f1 x.f2) (fun r=>eH r.1 m=true∧r.2=m):=by
 have hs:=(mZ hl)
 refine EvQ.of_ev (Pb l m x ⟨by simp only[List.length_cons];omega,fun y hy=>?_⟩ ((pE l m).1 hl).1) ⟨a9n hl hx,rfl⟩
 rcases List.mem_cons.1 hy with rfl|hy
 ·exact qQ hx
 ·exact hs.1.2 y hy
theorem Ia(x:bg)(p b:Int)(hx:fO x=true):(Kr p b++(if p=0 then wrB x.f0 else⟨#[]⟩)).size≤19:=by
 obtain⟨_,_,_,p0,_⟩:=mY hx
 have s0:=Bl p0
 have s4:=BU p b
 rw[bf]
 split
 ·omega
 ·rw[lT];omega
theorem Rt(l:List bg)(m:Int)(x:bg)(hl:eH l m=true)(hx:fO x=true):EvQ (fun k=>bY.f k l m x.f0 x.f1 x.f2) (fun r=>eH r.1 m=true∧r.2.1=m∧r.2.2.size≤36):=by
 have hsm:=mZ hl
 have hr:=Ph l x.f0 x.f1
 obtain⟨_,_,_,p0,p1⟩:=mY hx
 have s1:=Bl p1
 have h4:=Ia x (Ay l x.f0 x.f1).1 4 hx
 have h6:=Ia x (Ay l x.f0 x.f1).1 6 hx
 have h7:=BU (Ay l x.f0 x.f1).1 7
 unfold bY.f
 refine EvQ.bindE (Y0 l m _ _ _ hsm.1.1) (EvQ.ite (fun h2=>?_) (fun h2=>EvQ.ite (fun h3=>?_) (fun h3=>?_)))
 ·exact EvQ.bindE (Fe x _ 4 hx hr.1 (by omega) (.inl rfl)) (EvQ.bindE (yI x.f1 p1) (EvQ.pos (by omega) (EvQ.now ⟨hl,rfl,by dsimp only;rw[bf];omega⟩)))
 ·exact EvQ.bindE (Rp _ 7 hr.1 (by omega) (.inr (.inr rfl))) (EvQ.now ⟨hl,rfl,by dsimp only;omega⟩)
 ·refine EvQ.bind (ad1 l m x hl hx) ?_
  rintro⟨r,q⟩ ⟨hr1,rfl⟩
  exact EvQ.bindE (Fe x _ 6 hx hr.1 (by omega) (.inr (.inl rfl))) (EvQ.bindE (yI x.f1 p1) (EvQ.pos (by omega) (EvQ.now ⟨hr1,rfl,by dsimp only;rw[bf];omega⟩)))
theorem Ru(h:List bg)(m:Int)(hh:h.length≤6)(hx:∀x∈h,fO x=true)(d:Nat):∀(i:Nat)(out:ByteArray)(l:List bg),h.length-i=d→i≤h.length→eH l m=true→out.size≤36*i→
 EvQ (fun k=>dz.l0 k h out i l m) (fun r=>eH r.1 m=true∧r.2.1=m∧r.2.2.size≤220):=by
 induction d with
 |zero=>
  intro i out l hd hi hl ho
  exact EvQ.step (fun k=>by rw[dz.l0]) (EvQ.neg (by omega) (EvQ.now ⟨hl,rfl,by dsimp only;omega⟩))
 |succ d ih=>
  intro i out l hd hi hl ho
  have hj:i<h.length:=by omega
  have ew:wrap64 ((i:Int)+1)=((i+1:Nat):Int):=by rw[dP _ (by omega) (by omega)];omega
  have hmem:aT h (i:Int)∈h:=by rw[uG h i hj];exact List.getElem_mem hj
  refine EvQ.step (fun k=>by rw[dz.l0]) (EvQ.pos (by omega) (EvQ.pos (by omega) ?_))
  simp only[ew]
  generalize aT h (i:Int)=x at*
  refine EvQ.bind (Rt l m x hl (hx x hmem)) ?_
  rintro⟨r,q,s⟩ ⟨hr1,rfl,hs⟩
  dsimp only at*
  exact EvQ.pos (by omega) (ih (i+1) (out++s) r (by omega) (by omega) hr1 (by rw[bf];omega))
theorem a1R(h l:List bg)(m:Int)(hh:jM h=true)(hl:eH l m=true):EvQ (fun k=>dz.f k l m h) (fun r=>eH r.1 m=true∧r.2.1=m∧r.2.2.size≤220):=by
 obtain⟨h1,h2⟩:=(oO h).1 hh
 exact Ru h m h2 h1 h.length 0 (⟨#[]⟩:ByteArray) l (by omega) (by omega) hl (by rw[lT];omega)
def Rv(b:ByteArray)(r:Int×Int×Bool):Prop:=r.2.2=true→0≤r.1∧1≤r.2.1∧r.2.1≤b.size
theorem qh(b:ByteArray)(hs:b.size≤1000000000)(x8 x9:Int)(i:Nat)(h0:0≤x8)(h1:x8≤1000000000000)(h2:0≤x9)(h3:x9≤10000000)(hi:1≤i)(hi2:i≤4)
 (h:i≤3→∀y:Int,0≤y→y≤x8+1280000000→EvQ (fun k=>aI.l0 k b y (128*x9) ((i+1:Nat):Int)) (Rv b)):
 EvQ (fun k=>aI.l0 k b x8 x9 i) (Rv b):=by
 have hno:Rv b (0,0,false):=fun h=>by cases h
 refine EvQ.step (fun k=>by rw[aI.l0]) (EvQ.ite (fun hlt=>?_) (fun _=>EvQ.step (fun k=>by rw[aI.j1]) (EvQ.neg (by decide) (EvQ.now hno))))
 by_cases h9:i≤3
 ·have hc:=kg b i
  have ht:=nk (wrap64 (bt b i)) 128 (by rw[dP _ (by omega) (by omega)];omega) (by omega)
  have hm0:=Int.mul_nonneg h2 ht.1
  have hm1:x9*Int.tmod (wrap64 (bt b i)) 128≤10000000*128:=Int.mul_le_mul h3 (by omega) ht.1 (by omega)
  have e1:wrap64 (x8+wrap64 (x9*Int.tmod (wrap64 (bt b i)) 128))=x8+x9*Int.tmod (wrap64 (bt b i)) 128:=by
   rw[dP (x9*_) (by omega) (by omega),dP _ (by omega) (by omega)]
  have e2:wrap64 (128*x9)=128*x9:=dP _ (by omega) (by omega)
  have e3:wrap64 ((i:Int)+1)=((i+1:Nat):Int):=by rw[dP _ (by omega) (by omega)];omega
  rw[decide_eq_true (by omega)]
  refine EvQ.step (fun k=>by rw[aI.j1]) ?_
  simp only[e1,e2,e3]
  have hfin:EvQ (fun _=>some (x8+x9*Int.tmod (wrap64 (bt b i)) 128,((i+1:Nat):Int),true)) (Rv b):=EvQ.now (fun _=>⟨by dsimp only;omega,by dsimp only;omega,by dsimp only;omega⟩)
  refine EvQ.pos (by trivial) (EvQ.pos (by omega) (EvQ.pos hlt (EvQ.ite (fun _=>EvQ.ite (fun _=>EvQ.ite (fun _=>EvQ.now hno) (fun _=>EvQ.ite (fun _=>EvQ.now hno) (fun _=>hfin))) (fun _=>EvQ.ite (fun _=>EvQ.now hno) (fun _=>hfin))) (fun _=>?_))))
  exact h h9 _ (by omega) (by omega)
 ·rw[decide_eq_false (by omega)]
  exact EvQ.step (fun k=>by rw[aI.j1]) (EvQ.neg (by decide) (EvQ.now hno))
theorem a9o(bits:Int)(hb:bits=4∨bits=6∨bits=7):EvQ (fun k=>bX.f k bits) (fun t=>t=16∨t=64∨t=128):=by
 rcases hb with rfl|rfl|rfl
 ·exact EvQ.of_ev (Ev.of (fun k=>bX.mono _ k) (show bX.f 20 4=some 16 by decide+kernel)) (.inl rfl)
 ·exact EvQ.of_ev (Ev.of (fun k=>bX.mono _ k) (show bX.f 20 6=some 64 by decide+kernel)) (.inr (.inl rfl))
 ·exact EvQ.of_ev (Ev.of (fun k=>bX.mono _ k) (show bX.f 20 7=some 128 by decide+kernel)) (.inr (.inr rfl))
theorem Po(b:ByteArray)(hs:b.size≤1000000000)(bits:Int)(hb:bits=4∨bits=6∨bits=7):EvQ (fun k=>aI.f k b bits) (Rv b):=by
 unfold aI.f
 refine EvQ.ite (fun h=>EvQ.now (fun h=>by cases h)) (fun h=>?_)
 have hb0:0<b.size:=Nat.pos_of_ne_zero (fun h0=>h ((jO b).2 h0))
 have hc:=kg b 0
 refine EvQ.bind (a9o bits hb) ?_
 intro t ht
 have e1:wrap64 (t-1)=t-1:=dP _ (by omega) (by omega)
 have e2:wrap64 (t-1+1)=t:=by rw[dP _ (by omega) (by omega)];omega
 simp only[e1,e2]
 have hm:=nk (wrap64 (bt b 0)) t (by rw[dP _ (by omega) (by omega)];omega) (by omega)
 refine EvQ.pos (by omega) (EvQ.neg (by omega) (EvQ.ite (fun h1=>EvQ.now (fun _=>⟨hm.1,by dsimp only;omega,by dsimp only;omega⟩)) (fun h1=>?_)))
 generalize Int.tmod (wrap64 (bt b 0)) t=x at*
 refine qh b hs x 1 1 (by omega) (by omega) (by omega) (by omega) (by omega) (by omega) (fun _ y hy hy1=>?_)
 refine qh b hs _ _ 2 (by omega) (by omega) (by omega) (by omega) (by omega) (by omega) (fun _ y hy hy1=>?_)
 refine qh b hs _ _ 3 (by omega) (by omega) (by omega) (by omega) (by omega) (by omega) (fun _ y hy hy1=>?_)
 exact qh b hs _ _ 4 (by omega) (by omega) (by omega) (by omega) (by omega) (by omega) (fun h9=>absurd h9 (by omega))
def VX(b:ByteArray)(r:ByteArray×Int×Bool):Prop:=0≤r.2.1∧(r.2.2=true→j6 r.1=true∧1≤r.2.1∧r.2.1≤b.size)
theorem a1S(b:ByteArray):VX b (Eu b):=by
 rcases h:Eu b with⟨w,u,t⟩
 cases t with
 |true=>
  obtain⟨h1,h2,h3,_⟩:=rd_true h
  exact⟨by dsimp only;omega,fun _=>⟨Xa h1,h2,h3⟩⟩
 |false=>
  obtain⟨rfl,rfl⟩:=rd_false h
  exact⟨by decide,fun h=>by cases h⟩
theorem Rw(b:ByteArray):(Eu b).2.1≤b.size:=by
 rcases h:Eu b with⟨w,u,t⟩
 cases t with
 |true=>exact(rd_true h).2.2.1
 |false=>obtain⟨rfl,rfl⟩:=rd_false h;exact Int.natCast_nonneg _
theorem a9p(n lo hi:Int):EvQ (fun _=>cK.f n lo hi) (fun r=>r=true↔lo≤n∧n≤hi):=by
 unfold cK.f
 refine EvQ.ite (fun h=>EvQ.now ⟨fun h1=>⟨by omega,of_decide_eq_true h1⟩,fun h1=>decide_eq_true h1.2⟩) (fun h=>EvQ.now ⟨(fun h1=>by cases h1),fun h1=>absurd h1.1 (by omega)⟩)
theorem a1T:∀x∈lu,fO x=true:=by
 have:lu.all fO=true:=by decide+kernel
 exact fun x hx=>List.all_eq_true.1 this x hx
theorem a1U(l:List bg)(m p:Int)(hl:eH l m=true):EvQ (fun _=>kF.f l m p) (fun r=>r.2.2.2=true→fO (⟨r.1,r.2.1,r.2.2.1⟩:bg)=true):=by
 have hs:=(mZ hl).2
 have hf:∀x∈lu++l,fO x=true:=fun x hx=>by
  rcases List.mem_append.1 hx with hx|hx
  ·exact a1T x hx
  ·have:=((pE l m).1 hl).2.2.1
   unfold jD at this
   have:=List.all_eq_true.1 this x hx
   rw[Bool.and_eq_true]at this
   exact this.1
 unfold kF.f
 refine EvQ.bind (EvQ.of_eq (Q:=fun t=>t=lu++l) (r:=lu++l) ?_ rfl) ?_
 ·unfold ja.f
  show(some lu).bind _=_
  rw[Option.bind_some,if_pos (by rw[ny];omega)]
 ·rintro t rfl
  have hlen:(lu++l).length≤30:=by rw[List.length_append,ny];omega
  refine EvQ.bind (a9p p 1 _) ?_
  intro r hr
  refine EvQ.ite (fun h=>?_) (fun _=>EvQ.now (fun h=>by cases h))
  have h1:=hr.1 h
  have e:wrap64 (p-1)=((p-1).toNat:Int):=by rw[dP _ (by omega) (by omega)];omega
  have hj:(p-1).toNat<(lu++l).length:=by omega
  rw[e]
  refine EvQ.pos (by omega) (EvQ.pos (by omega) (EvQ.now (fun _=>?_)))
  rw[uG _ _ hj]
  exact hf _ (List.getElem_mem hj)
def agd(b:ByteArray)(r:ByteArray×ByteArray×Bool×Int×Bool):Prop:=r.2.2.2.2=true→fO (⟨r.1,r.2.1,r.2.2.1⟩:bg)=true∧1≤r.2.2.2.1∧r.2.2.2.1≤b.size
theorem sF{a b:ByteArray}{c:Bool}(ha:j6 a=true)(hb:j6 b=true)(h:a.size≠0):fO (⟨a,b,c⟩:bg)=true:=by
 unfold fO
 simp only[ha,hb,Bool.true_and,decide_eq_true_eq]
 exact h
theorem Ku{x:bg}(h:fO x=true):j6 x.f0=true∧x.f0.size≠0:=by
 unfold fO at h
 simp only[Bool.and_eq_true,decide_eq_true_eq]at h
 exact⟨h.1.1,h.2⟩
theorem Pp(l:List bg)(m:Int)(b:ByteArray)(bits:Int)(hl:eH l m=true)(hs:b.size≤1000000000)(hb:bits=4∨bits=6∨bits=7)(hw:∀c:ByteArray,c.size≤1000000000→Ev (fun k=>bG.f k c) (Eu c)):EvQ (fun k=>gU.f k l m b bits) (agd b):=by
 have hno:agd b ((⟨#[]⟩:ByteArray),(⟨#[]⟩:ByteArray),false,0,false):=fun h=>by cases h
 have hz:∀u:Int,0≤u→u≤(b.size:Int)→((b.extract u.toNat b.size).size:Int)=b.size-u:=fun u h0 h1=>by rw[ByteArray.size_extract];omega
 unfold gU.f
 refine EvQ.bind (Po b hs bits hb) ?_
 rintro⟨p,u,t⟩ hq
 unfold Rv at hq
 dsimp only at*
 refine EvQ.ite (fun ht=>?_) (fun _=>EvQ.now hno)
 obtain⟨hp,hu,hu1⟩:=hq ht
 have hz1:=hz u (by omega) hu1
 refine EvQ.ite (fun h0=>?_) (fun h0=>?_)
 ·refine EvQ.pos (by omega) (EvQ.pos hu1 (EvQ.bindE (hw _ (by omega)) ?_))
  have hr:=a1S (b.extract u.toNat b.size)
  have hr2:=Rw (b.extract u.toNat b.size)
  rcases hx:Eu (b.extract u.toNat b.size)with⟨a,n,t2⟩
  rw[hx]at hr hr2
  unfold VX at hr
  dsimp only at*
  refine EvQ.ite (fun h2=>EvQ.ite (fun _=>EvQ.now hno) (fun h3=>?_)) (fun _=>EvQ.now hno)
  obtain⟨_,hr⟩:=hr
  obtain⟨hr1,hn,hn1⟩:=hr h2
  have e:wrap64 (u+n)=u+n:=dP _ (by omega) (by omega)
  have hz2:=hz (u+n) (by omega) (by omega)
  simp only[e]
  refine EvQ.pos (by omega) (EvQ.pos (by omega) (EvQ.bindE (hw _ (by omega)) ?_))
  have hv:=a1S (b.extract (u+n).toNat b.size)
  have hv2:=Rw (b.extract (u+n).toNat b.size)
  rcases hy:Eu (b.extract (u+n).toNat b.size)with⟨c,n2,t3⟩
  rw[hy]at hv hv2
  unfold VX at hv
  dsimp only at*
  refine EvQ.now (fun h5=>?_)
  obtain⟨hv1,hn2,hn3⟩:=hv.2 h5
  refine⟨sF hr1 hv1 (fun h9=>h3 ((jO a).2 h9)),?_,?_⟩<;>(dsimp only;rw[dP _ (by omega) (by omega)];omega)
 ·refine EvQ.bind (a1U l m p hl) ?_
  rintro⟨a,c,d,t2⟩ hf
  dsimp only at*
  refine EvQ.ite (fun h2=>?_) (fun _=>EvQ.now hno)
  have hn:=Ku (hf h2)
  refine EvQ.pos (by omega) (EvQ.pos hu1 (EvQ.bindE (hw _ (by omega)) ?_))
  have hv:=a1S (b.extract u.toNat b.size)
  have hv2:=Rw (b.extract u.toNat b.size)
  rcases hy:Eu (b.extract u.toNat b.size)with⟨v,n2,t3⟩
  rw[hy]at hv hv2
  unfold VX at hv
  dsimp only at*
  refine EvQ.now (fun h5=>?_)
  obtain⟨hv1,hn2,hn3⟩:=hv.2 h5
  refine⟨sF hn.1 hv1 hn.2,?_,?_⟩<;>(dsimp only;rw[dP _ (by omega) (by omega)];omega)
def aDC(m:Int)(b:ByteArray)(r:List bg×Int×ByteArray×ByteArray×Bool×Int×Bool):Prop:=eH r.1 m=true∧r.2.1=m∧(r.2.2.2.2.2.2=true→fO (⟨r.2.2.1,r.2.2.2.1,r.2.2.2.2.1⟩:bg)=true∧1≤r.2.2.2.2.2.1∧r.2.2.2.2.2.1≤b.size)
theorem a1V(l:List bg)(m:Int)(b:ByteArray)(hl:eH l m=true)(hs:b.size≤1000000000)(hb:0<b.size)(hw:∀c:ByteArray,c.size≤1000000000→Ev (fun k=>bG.f k c) (Eu c)):EvQ (fun k=>bQ.f k l m b) (aDC m b):=by
 unfold bQ.f
 refine EvQ.pos (by omega) (EvQ.ite (fun _=>?_) (fun _=>EvQ.ite (fun _=>?_) (fun _=>?_)))
 ·refine EvQ.bind (Po b hs 7 (.inr (.inr rfl))) ?_
  rintro⟨p,u,t⟩ hq
  refine EvQ.bind (a1U l m _ hl) ?_
  rintro⟨a,c,d,t2⟩ hf
  unfold Rv at hq
  dsimp only at*
  refine EvQ.ite (fun h=>EvQ.now ⟨hl,rfl,fun h2=>⟨hf h2,(hq h).2.1,(hq h).2.2⟩⟩) (fun h=>EvQ.now ⟨hl,rfl,fun h2=>by cases h2⟩)
 ·refine EvQ.bind (Pp l m b 6 hl hs (.inr (.inl rfl)) hw) ?_
  rintro⟨a,c,d,u,t⟩ hf
  unfold agd at hf
  dsimp only at*
  refine EvQ.ite (fun h=>?_) (fun h=>EvQ.now ⟨hl,rfl,fun h2=>by cases h2⟩)
  refine EvQ.bind (ad1 l m ⟨a,c,d⟩ hl (hf h).1) ?_
  rintro⟨r,q⟩ ⟨hr1,rfl⟩
  exact EvQ.now ⟨hr1,rfl,fun _=>hf h⟩
 ·refine EvQ.bind (a9p _ 16 31) ?_
  intro r _
  refine EvQ.ite (fun _=>?_) (fun _=>EvQ.now ⟨hl,rfl,fun h2=>by cases h2⟩)
  refine EvQ.bind (Pp l m b 4 hl hs (.inl rfl) hw) ?_
  rintro⟨a,c,d,u,t⟩ hf
  exact EvQ.now ⟨hl,rfl,fun h=>hf h⟩
def ad2(r:List bg×Int×List bg×Bool):Prop:=jM r.2.2.1=true∧(r.2.2.2=true→eH r.1 r.2.1=true)
theorem Y4(hw:∀c:ByteArray,c.size≤1000000000→Ev (fun k=>bG.f k c) (Eu c))(n:Nat):∀(b:ByteArray)(out l:List bg)(m:Int),b.size≤n→n≤1000000→eH l m=true→jM out=true→EvQ (fun k=>dL.l0 k b out l m) ad2:=by
 induction n with
 |zero=>
  intro b out l m hb hn hl ho
  exact EvQ.step (fun k=>by rw[dL.l0]) (EvQ.pos ((jO b).2 (by omega)) (EvQ.now ⟨ho,fun _=>hl⟩))
 |succ n ih=>
  intro b out l m hb hn hl ho
  refine EvQ.step (fun k=>by rw[dL.l0]) (EvQ.ite (fun _=>EvQ.now ⟨ho,fun _=>hl⟩) (fun h=>?_))
  have hb0:0<b.size:=Nat.pos_of_ne_zero (fun h0=>h ((jO b).2 h0))
  have hno:EvQ (fun _=>some (([]:List bg),(0:Int),([]:List bg),false)) ad2:=EvQ.now ⟨by decide,fun h=>by cases h⟩
  refine EvQ.bind (a1V l m b hl (by omega) hb0 hw) ?_
  rintro⟨l',m',x0,x1,x2,u,t⟩ ⟨h1,h2,h3⟩
  dsimp only at*
  subst h2
  refine EvQ.ite (fun ht=>EvQ.ite (fun _=>hno) (fun h6=>?_)) (fun _=>hno)
  obtain⟨h4,h5,h7⟩:=h3 ht
  have ho':=(oO out).1 ho
  refine EvQ.pos (by omega) (EvQ.pos (by omega) (EvQ.pos h7 (ih _ _ _ _ (by rw[ByteArray.size_extract];omega) (by omega) h1 ((oO _).2 ⟨fun x hx=>?_,by rw[List.length_append,List.length_singleton];omega⟩))))
  rcases List.mem_append.1 hx with hx|hx
  ·exact ho'.1 x hx
  ·rw[List.mem_singleton.1 hx];exact h4
theorem agf(h:List bg)(a:ByteArray)(hh:h.length≤1000)(d:Nat):∀i:Nat,h.length-i=d→i≤h.length→EvQ (fun k=>dF.l0 k h a (i:Int)) (fun _=>True):=by
 induction d with
 |zero=>intro i hd hi;exact EvQ.step (fun k=>by rw[dF.l0]) (EvQ.neg (by omega) (EvQ.now trivial))
 |succ d ih=>
  intro i hd hi
  have e:wrap64 ((i:Int)+1)=((i+1:Nat):Int):=by rw[dP _ (by omega) (by omega)];omega
  refine EvQ.step (fun k=>by rw[dF.l0]) (EvQ.pos (by omega) (EvQ.pos (by omega) (EvQ.ite (fun _=>EvQ.now trivial) (fun _=>?_))))
  rw[e]
  exact ih (i+1) (by omega) (by omega)
theorem uH{h:List bg}(hh:jM h=true):h.length≤6∧∀x∈h,iJ x:=by
 obtain⟨h1,h2⟩:=(oO h).1 hh
 exact⟨h2,fun x hx=>qQ (h1 x hx)⟩
theorem ap1(h:List bg)(a:ByteArray)(hh:jM h=true):EvQ (fun k=>dF.f k h a) (fun _=>True):=by
 have hs:=uH hh
 unfold dF.f
 exact EvQ.bindE (nW h (by omega) hs.2) (EvQ.ite (fun _=>agf h a (by omega) h.length 0 (by omega) (by omega)) (fun _=>EvQ.now trivial))
theorem ap2(s:ByteArray)(hs:s.size≤1000)(d:Nat):∀(i:Nat)(o:ByteArray),s.size-i=d→i≤s.size→o.size≤i→EvQ (fun k=>dO.l0 k s o (i:Int)) (fun r=>r.size≤s.size):=by
 induction d with
 |zero=>intro i o hd hi ho;exact EvQ.step (fun k=>by rw[dO.l0]) (EvQ.neg (by omega) (EvQ.now (by omega)))
 |succ d ih=>
  intro i o hd hi ho
  have e:wrap64 ((i:Int)+1)=((i+1:Nat):Int):=by rw[dP _ (by omega) (by omega)];omega
  have hz:∀c:Int,(strOfNums [c]).size=1:=fun c=>by rw[gu];rfl
  refine EvQ.step (fun k=>by rw[dO.l0]) (EvQ.pos (by omega) (EvQ.pos (by omega) ?_))
  simp only[Option.bind_some,e]
  refine EvQ.ite (fun _=>EvQ.ite (fun _=>?_) (fun _=>?_)) (fun _=>?_)<;>exact EvQ.pos (by rw[hz];omega) (ih (i+1) _ (by omega) (by omega) (by rw[bf,hz];omega))
theorem a1W(n:Nat)(hn:n≤100000):EvQ (fun k=>dH.f k (n:Int)) (fun r=>r.size≤n+1):=by
 induction n using Nat.strongRecOn with
 |_ n ih=>
  refine EvQ.step (fun k=>by rw[dH.f]) (EvQ.neg (by omega) (EvQ.neg (by omega) (EvQ.ite (fun _=>EvQ.now (by rw[gu];simp)) (fun h=>?_))))
  have e:wrap64 (Int.tdiv (n:Int) 10)=((n/10:Nat):Int):=by
   have:Int.tdiv (n:Int) 10=((n/10:Nat):Int):=rfl
   rw[this,dP _ (by omega) (by omega)]
  rw[e]
  refine EvQ.bind (ih (n/10) (by omega) (by omega)) (fun s hs=>?_)
  simp only[Option.bind_some]
  refine EvQ.pos (by rw[gu];simp only[List.length_cons,List.length_nil];omega) (EvQ.now ?_)
  rw[bf,gu]
  simp only[List.length_cons,List.length_nil]
  omega
theorem w48:j6 (⟨#[48]⟩:ByteArray)=true:=by decide+kernel
theorem a1X(p s:ByteArray)(hs:s.size≤16):EvQ (fun k=>gG.f k p s) (fun r=>j6 r.1=true∧r.2.size≤100):=by
 unfold gG.f
 refine EvQ.ite (fun _=>EvQ.now ⟨w48,by dsimp only;omega⟩) (fun _=>EvQ.ite (fun _=>?_) (fun _=>EvQ.ite (fun _=>?_) (fun _=>EvQ.now ⟨by decide+kernel,by decide⟩)))
 ·exact EvQ.bind (ap2 s (by omega) s.size 0 (⟨#[]⟩:ByteArray) (by omega) (by omega) (by rw[lT];omega)) (fun t ht=>EvQ.now ⟨w48,by dsimp only;omega⟩)
 ·exact EvQ.bind (a1W s.size (by omega)) (fun t ht=>EvQ.now ⟨w48,by dsimp only;omega⟩)
theorem Fg(x:Int):EvQ (fun _=>bZ.f x) (fun _=>True):=by
 unfold bZ.f
 refine EvQ.bind (a9p _ _ _) ?_
 intro r _
 repeat(first|exact EvQ.now trivial|refine EvQ.ite (fun _=>?_) (fun _=>?_)|refine EvQ.neg (by decide) ?_)
theorem Ib(a:Int)(b:Bool)(c:Int)(d:Bool)(e:Int)(s:ByteArray)(hb:b=true→a≠8):EvQ (fun k=>dh.j0 k a b c d e s) (fun r=>r=true→a=8→1≤s.size):=by
 have hf:EvQ (fun _=>some false) (fun r=>r=true→a=8→1≤s.size):=EvQ.now (fun h=>by cases h)
 have h8:EvQ (fun _=>if d=true then some false else(if(s.size:Int)=1 then(if 0<(s.size:Int)then((cK.f (wrap64 (bt s 0)) 1 31).bind fun t=>some t)else none)else some false)) (fun r=>r=true→a=8→1≤s.size):=
  EvQ.ite (fun _=>hf) (fun _=>EvQ.ite (fun h1=>EvQ.pos (by omega) (EvQ.bind (a9p _ 1 31) (fun _ _=>EvQ.now (fun _ _=>by omega)))) (fun _=>hf))
 refine EvQ.step (fun k=>by rw[dh.j0]) (EvQ.ite (fun h=>EvQ.bind (Fg e) (fun _ _=>EvQ.ite (fun _=>EvQ.now (fun _ h1=>absurd h1 (hb h))) (fun _=>hf))) (fun _=>EvQ.ite (fun h3=>EvQ.bind (Fg e) (fun _ _=>EvQ.ite (fun _=>EvQ.ite (fun _=>hf) (fun _=>EvQ.now (fun _ h1=>by omega))) (fun _=>hf))) (fun _=>EvQ.ite (fun _=>EvQ.ite (fun _=>h8) (fun _=>EvQ.bind (Fg e) (fun _ _=>EvQ.ite (fun _=>h8) (fun _=>hf)))) (fun _=>hf))))
theorem a9q(a:Int)(d:Bool)(e:Int)(s:ByteArray):EvQ (fun k=>dh.f k a d e s) (fun r=>r=true→a=8→1≤s.size):=by
 unfold dh.f
 exact EvQ.ite (fun h=>Ib _ _ _ _ _ _ (fun _=>by omega)) (fun h=>Ib _ _ _ _ _ _ (fun h1=>by have:=eq_of_beq h1;omega))
theorem agh(b:ByteArray)(hs:b.size≤1000000000):EvQ (fun k=>bV.f k b) (fun r=>0<r.2.2.2.2.2→4≤r.2.2.2.2.1∧r.2.2.2.2.1≤(b.size:Int)∧r.2.2.2.1.size≤255∧(r.1=8→1≤r.2.2.2.1.size)):=by
 have h0:=kg b 0
 have e0:wrap64 (bt b 0)=bt b 0:=dP _ (by omega) (by omega)
 have ej:wrap64 (4+bt b 0)=4+bt b 0:=dP _ (by omega) (by omega)
 unfold bV.f
 simp only[e0]
 have hj:∀t:Bool,(t=false→bt b 0≤200)→4≤b.size→EvQ (fun k=>bV.j0 k b (bt b 0) t) (fun r=>0<r.2.2.2.2.2→4≤r.2.2.2.2.1∧r.2.2.2.2.1≤(b.size:Int)∧r.2.2.2.1.size≤255∧(r.1=8→1≤r.2.2.2.1.size)):=by
  intro t ht h4
  refine EvQ.step (fun k=>by rw[bV.j0]) ?_
  simp only[ej]
  refine EvQ.ite (fun _=>EvQ.now (fun h=>absurd h (by decide))) (fun h1=>EvQ.ite (fun _=>EvQ.now (fun h=>absurd h (by decide))) (fun h2=>EvQ.pos (by omega) (EvQ.pos (by omega) (EvQ.pos (by omega) (EvQ.pos (by omega) (EvQ.pos (by omega) ?_))))))
  have hl:=ht (by simpa using h1)
  have hz:(b.extract 4 (4+bt b 0).toNat).size≤255:=by rw[ByteArray.size_extract];omega
  refine EvQ.bind (a9q _ _ _ _) ?_
  intro r hr
  exact EvQ.ite (fun h3=>EvQ.now (fun _=>⟨by dsimp only;omega,by dsimp only;omega,hz,hr h3⟩)) (fun _=>EvQ.now (fun h=>absurd h (by decide)))
 refine EvQ.ite (fun _=>EvQ.now (fun h=>absurd h (by decide))) (fun h4=>EvQ.pos (by omega) (EvQ.ite (fun _=>hj true (fun h=>by cases h) (by omega)) (fun h=>EvQ.pos (by omega) (hj _ (fun _=>by omega) (by omega)))))
theorem Kv(c:Int):strings_IndexByte.f (⟨#[101,116,97,111,105,110,115,114,104,108,48,49,50,51,52,53,54,55,56,57,100,99,117,109,102,112,103,119,121,98,118,107,120,106,113,122,58,47,45]⟩:ByteArray) c=some (place c):=rfl
theorem Fh(a:ByteArray)(hs:a.size≤1000000000)(d:Nat):∀i:Nat,a.size-i=d→i≤a.size→
 Ev (fun k=>bq.l0 k a (a.size:Int) i) (decide (a.size≤16∧∀j:Nat,j<a.size→i≤j→0≤place (bt a j))):=by
 induction d with
 |zero=>
  intro i hd hi
  have e:i=a.size:=by omega
  refine Ev.step (fun k=>by rw[bq.l0]) ?_
  refine Ev.neg (by omega) ?_
  have:(decide (a.size≤16∧∀j:Nat,j<a.size→i≤j→0≤place (bt a j)))=decide ((a.size:Int)≤16):=by
   rw[decide_eq_decide]
   constructor
   ·rintro⟨h,_⟩;omega
   ·intro h;exact⟨by omega,fun j h1 h2=>by omega⟩
  rw[this]
  exact Ev.now _
 |succ d ih=>
  intro i hd hi
  have hb:=kg a i
  refine Ev.step (fun k=>by rw[bq.l0]) ?_
  refine EvQ.ev (EvQ.pos (by omega) (EvQ.pos (by omega) (EvQ.pos (by omega) ?_)))
  rw[Kv]
  simp only[Option.bind_some]
  refine EvQ.ite (fun h=>EvQ.now ?_) (fun h=>?_)
  ·symm
   rw[decide_eq_false_iff_not]
   rintro⟨_,h2⟩
   have:=h2 i (by omega) (by omega)
   omega
  ·rw[dP _ (by omega) (by omega),show((i:Int)+1)=((i+1:Nat):Int) by omega]
   refine EvQ.of_ev (ih (i+1) (by omega) (by omega)) ?_
   rw[decide_eq_decide]
   constructor
   ·rintro⟨h1,h2⟩
    refine⟨h1,fun j h3 h4=>?_⟩
    by_cases e:j=i
    ·subst e;omega
    ·exact h2 j h3 (by omega)
   ·rintro⟨h1,h2⟩
    exact⟨h1,fun j h3 h4=>h2 j h3 (by omega)⟩
theorem nX(a:ByteArray)(hs:a.size≤1000000000):Ev (fun k=>bq.f k a) (j6 a):=by
 unfold bq.f
 have h:=Fh a hs a.size 0 (by omega) (by omega)
 have e:j6 a=(decide (a.size≤16∧∀j:Nat,j<a.size→0≤j→0≤place (bt a j))):=by
  unfold j6
  rw[decide_eq_decide,yc]
  simp
 rw[e]
 exact h
theorem Ic(a b c:Int):eY.f a b c=some (decide (b≤a∧a≤c)):=by
 unfold eY.f
 by_cases h:b≤a<;>simp[h]
theorem agi(l:List bg)(hl:Small l)(d:Nat):∀(i:Nat)(a:Int),l.length-i=d→i≤l.length→0≤a→a≤8000004*(i:Int)→
 Ev (fun k=>bN.l0 k a l (l.length:Int) i) (a+jy (l.drop i)):=by
 have hlen:=hl.1
 induction d with
 |zero=>
  intro i a hd hi ha ha1
  have e:i=l.length:=by omega
  subst e
  refine Ev.step (fun k=>by rw[bN.l0]) (Ev.neg (by omega) ?_)
  rw[List.drop_length]
  simp only[jy,Int.add_zero]
  exact Ev.now _
 |succ d ih=>
  intro i a hd hi ha ha1
  have hj:i<l.length:=by omega
  have hs:iJ (aT l (i:Int)):=by rw[uG l i hj];exact hl.2 _ (List.getElem_mem hj)
  have h1:=hs.one
  have h2:=one_pos (aT l (i:Int))
  have h3:=hs
  unfold iJ at h3
  refine Ev.step (fun k=>by rw[bN.l0]) (EvQ.ev (EvQ.pos (by omega) (EvQ.pos (by omega) (EvQ.pos (by omega) ?_))))
  rw[dP (((aT l (i:Int)).f0.size:Int)+((aT l (i:Int)).f1.size:Int)) (by omega) (by omega),dP (((aT l (i:Int)).f0.size:Int)+((aT l (i:Int)).f1.size:Int)+4) (by omega) (by omega)]
  rw[show((aT l (i:Int)).f0.size:Int)+((aT l (i:Int)).f1.size:Int)+4=one (aT l (i:Int))from rfl]
  rw[dP _ (by omega) (by omega),dP _ (by omega) (by omega),show((i:Int)+1)=((i+1:Nat):Int) by omega,xh l i hj]
  refine EvQ.of_ev (ih (i+1) _ (by omega) (by omega) (by omega) (by omega)) ?_
  simp only[jy]
  omega
theorem agj(l:List bg)(m:Int)(hl:Small l):Ev (fun k=>bN.f k l m) (jy l):=by
 unfold bN.f
 have h:=agi l hl l.length 0 0 (by omega) (by omega) (by omega) (by omega)
 rw[List.drop_zero,Int.zero_add]at h
 exact h
theorem toList_ne_nil(a:ByteArray):(a.toList != ([]:List UInt8))=decide (a.size≠0):=by
 unfold bne
 rw[qB]
 by_cases h:a.size=0<;>simp[h]
theorem uW(x:bg)(h:iJ x):Ev (fun k=>fK.f k x.f0 x.f1 x.f2) (fO x):=by
 unfold iJ at h
 unfold fK.f fO
 refine EvQ.ev (EvQ.bindE (nX x.f0 (by omega)) ?_)
 refine EvQ.ite (fun h1=>?_) (fun h1=>EvQ.now (by simp[h1]))
 refine EvQ.bindE (nX x.f1 (by omega)) ?_
 refine EvQ.ite (fun h2=>EvQ.now (by rw[h1,h2,toList_ne_nil];rfl)) (fun h2=>EvQ.now (by simp[h2]))
theorem Az(x:bg)(h:iJ x):Ev (fun k=>gT.f k x.f0 x.f1 x.f2) (!(fO x&& !x.f2)):=by
 unfold gT.f
 refine EvQ.ev (EvQ.bindE (uW x h) ?_)
 refine EvQ.ite (fun h1=>EvQ.now (by simp[h1])) (fun h1=>EvQ.now (by simp[h1]))
def Ie(p:bg→Bool):List bg→Int→Int
 |[],_=> -1
 |x::l,i=>if p x then i else Ie p l (i+1)
theorem Y5(p:bg→Bool)(l:List bg):∀i:Int,0≤i→decide (0≤Ie p l i)=l.any p:=by
 induction l with
 |nil=>intro i _;rfl
 |cons x l ih=>
  intro i hi
  unfold Ie
  by_cases h:p x=true
  ·rw[if_pos h,List.any_cons,h];simpa using hi
  ·rw[if_neg h,List.any_cons,ih _ (by omega)];simp[h]
theorem Rx(p:Nat→bg→Option Bool)(q:bg→Bool)(l:List bg)(h:∀x∈l,Ev (fun k=>p k x) (q x)):∀i:Int,Ev (fun k=>idxFrom (p k) l i) (Ie q l i):=by
 induction l with
 |nil=>intro i;unfold idxFrom Ie;exact Ev.now _
 |cons x l ih=>
  intro i
  unfold idxFrom Ie
  refine EvQ.ev (EvQ.bindE (h x List.mem_cons_self) (EvQ.ite (fun h1=>EvQ.now (by rw[if_pos h1])) (fun h1=>?_)))
  rw[if_neg h1]
  exact EvQ.of_ev (ih (fun y hy=>h y (List.mem_cons_of_mem _ hy)) (i+1)) rfl
theorem CP(g:Nat)(q:bg→Bool)(l:List bg)(hk:aC.known g)(hl:l.length≤1000000000)(h:∀x∈l,Ev (fun k=>aC.p k g x) (q x)):
 Ev (fun k=>aC.f k l g) (l.any q):=by
 unfold aC.f
 refine Ev.pos ⟨hl,hk⟩ (EvQ.ev (EvQ.bindE (Rx (fun k=>aC.p k g) q l h 0) (EvQ.now (Y5 q l 0 (by omega)))))
theorem CQ(p:bg→Bool)(l:List bg):l.any (fun x=> !p x)= !l.all p:=by
 induction l with
 |nil=>rfl
 |cons x l ih=>rw[List.any_cons,List.all_cons,ih];cases p x<;>rfl
theorem Dg(l:List bg)(m:Int)(hl:Small l):Ev (fun k=>dZ.f k l m) (eH l m):=by
 have hlen:=hl.1
 unfold dZ.f eH
 rw[Ic]
 simp only[Option.bind_some]
 refine EvQ.ev (EvQ.ite (fun h1=>?_) (fun h1=>EvQ.now (by rw[decide_eq_false (fun h=>h1 (decide_eq_true h))];rfl)))
 have hc:=CP 64 (fun x=> !(fO x&& !x.f2)) l (by unfold aC.known;simp) (by omega) (fun x hx=>by
  have:=Az x (hl.2 x hx)
  unfold aC.p
  simpa using this)
 rw[CQ (fun x=>fO x&& !x.f2)]at hc
 refine EvQ.bindE hc (EvQ.ite (fun h2=>EvQ.now ?_) (fun h2=>EvQ.bindE (agj l m hl) (EvQ.now ?_)))
 ·rw[h1]
  have h3:jD l=false:=by unfold jD;simpa using h2
  rw[h3];rfl
 ·rw[h1]
  have h3:jD l=true:=by unfold jD;simpa using h2
  rw[h3];rfl
theorem BV(x:bg)(h:iJ x):Ev (fun k=>iD.f k x.f0 x.f1 x.f2) (!fO x):=by
 unfold iD.f
 exact EvQ.ev (EvQ.bindE (uW x h) (EvQ.now rfl))
theorem vW(h:List bg)(hs:∀x∈h,iJ x):Ev (fun k=>eB.f k h) (jM h):=by
 unfold eB.f jM
 refine EvQ.ev (EvQ.ite (fun h1=>?_) (fun h1=>EvQ.now ?_))
 ·have hc:=CP 76 (fun x=> !fO x) h (by unfold aC.known;simp) (by omega) (fun x hx=>by
   have:=BV x (hs x hx)
   unfold aC.p
   simpa using this)
  rw[CQ fO]at hc
  refine EvQ.bindE hc (EvQ.now ?_)
  rw[decide_eq_true (by omega:h.length≤6)]
  simp
 ·rw[decide_eq_false (by omega:¬h.length≤6)]
  simp
def lm(p:nC→Bool):List nC→Int→Int
 |[],_=> -1
 |x::l,i=>if p x then i else lm p l (i+1)
theorem AA(p:nC→Bool)(l:List nC):∀i:Int,0≤i→decide (0≤lm p l i)=l.any p:=by
 induction l with
 |nil=>intro i _;rfl
 |cons x l ih=>
  intro i hi
  unfold lm
  by_cases h:p x=true
  ·rw[if_pos h,List.any_cons,h];simpa using hi
  ·rw[if_neg h,List.any_cons,ih _ (by omega)];simp[h]
theorem BZ(p:Nat→nC→Option Bool)(q:nC→Bool)(l:List nC)(h:∀x∈l,Ev (fun k=>p k x) (q x)):∀i:Int,Ev (fun k=>gI (p k) l i) (lm q l i):=by
 induction l with
 |nil=>intro i;unfold gI lm;exact Ev.now _
 |cons x l ih=>
  intro i
  unfold gI lm
  refine EvQ.ev (EvQ.bindE (h x List.mem_cons_self) (EvQ.ite (fun h1=>EvQ.now (by rw[if_pos h1])) (fun h1=>?_)))
  rw[if_neg h1]
  exact EvQ.of_ev (ih (fun y hy=>h y (List.mem_cons_of_mem _ hy)) (i+1)) rfl
theorem AB(g:Nat)(q:nC→Bool)(l:List nC)(hk:aG.known g)(hl:l.length≤1000000000)(h:∀x∈l,Ev (fun k=>aG.p k g x) (q x)):
 Ev (fun k=>aG.f k l g) (l.any q):=by
 unfold aG.f
 refine Ev.pos ⟨hl,hk⟩ (EvQ.ev (EvQ.bindE (BZ (fun k=>aG.p k g) q l h 0) (EvQ.now (AA q l 0 (by omega)))))
theorem AJ(p:nC→Bool)(l:List nC):l.any (fun x=> !p x)= !l.all p:=by
 induction l with
 |nil=>rfl
 |cons x l ih=>rw[List.any_cons,List.all_cons,ih];cases p x<;>rfl
theorem Ev.eq{α:Type}{r:α}{o:Option α}(h:o=some r):Ev (fun _=>o) r:=⟨0,fun _ _=>h⟩
theorem Ev.and{g f:Nat→Option Bool}{b c:Bool}(h:Ev g b)(k:b=true→Ev f c):Ev (fun n=>(g n).bind fun t=>if t=true then f n else some false) (b&&c):=by
 refine EvQ.ev (EvQ.bindE h (EvQ.ite (fun h1=>EvQ.of_ev (k h1) (by rw[h1];rfl)) (fun h1=>EvQ.now ?_)))
 cases b
 ·rfl
 ·exact absurd rfl h1
theorem Ev.one{g:Nat→Option Bool}{b:Bool}(h:Ev g b):Ev (fun n=>(g n).bind fun t=>some t) b:=EvQ.ev (EvQ.bindE h (EvQ.now rfl))
def inr(a b c:Int):Bool:=decide (b≤a∧a≤c)
def tT(n:Int):Bool:=inr n 1 7&&(Int.tmod n 2==1)
def pU(s r:Int):Bool:=inr s 0 31&&inr r 0 31
theorem CR(n:Int):gD.f n=some (tT n):=by
 unfold gD.f tT inr
 rw[Ic]
 simp only[Option.bind_some]
 by_cases h:1≤n∧n≤7<;>simp[h]
theorem AL(n:Int):bZ.f n=some (tT n):=by
 unfold bZ.f tT inr
 rw[xk]
 simp only[Option.bind_some]
 by_cases h:1≤n∧n≤7<;>simp[h]
theorem VY(s r:Int):kL.f s r=some (pU s r):=by
 unfold kL.f pU inr
 simp only[Ic,Option.bind_some]
 by_cases h:0≤s∧s≤31<;>simp[h]
theorem Pq(s r:Int):kK.f s r=some (pU s r):=by
 unfold kK.f pU inr
 simp only[xk,Option.bind_some]
 by_cases h:0≤s∧s≤31<;>simp[h]
def jA(x:nC):Bool:=
 if x.f0=8 then(decide (x.f2=0)||tT x.f2)&&(!x.f1&&(decide ((x.f3.size:Int)=1)&&inr (wrap64 (bt x.f3 0)) 1 31))
 else tT x.f2&&(if x.f0=0∨x.f0=1 then decide ((x.f3.size:Int)≤200)else decide (x.f0=3)&&((x.f3.toList==([]:List UInt8))&& !x.f1))
theorem a1Y(x:nC):kV.f x.f0 x.f1 x.f2 x.f3=some (jA x):=by
 unfold kV.f jA
 simp only[Ic,CR,Option.bind_some]
 by_cases h8:x.f0=8
 ·rw[if_pos h8,if_pos h8]
  cases h1:x.f1<;>by_cases hs:(x.f3.size:Int)=1<;>by_cases h0:x.f2=0<;>cases hi:tT x.f2<;>simp[hs,h0,hi,inr]
 ·rw[if_neg h8,if_neg h8]
  cases hi:tT x.f2
  ·simp
  ·by_cases h0:x.f0=0
   ·simp[h0]
   ·by_cases h1:x.f0=1
    ·simp[h1]
    ·by_cases h3:x.f0=3
     ·by_cases hl:x.f3.toList=([]:List UInt8)<;>simp[h3,hl]
     ·simp[h0,h1,h3]
theorem Y6(x:nC):Ev (fun k=>dh.f k x.f0 x.f1 x.f2 x.f3) (jA x):=by
 refine⟨1,fun k hk=>?_⟩
 obtain⟨k,rfl⟩:∃m,k=m+1:=⟨k-1,by omega⟩
 unfold dh.f jA
 simp only[dh.j0,xk,AL,Option.bind_some]
 by_cases h8:x.f0=8
 ·rw[if_pos h8,if_neg (by omega)]
  cases h1:x.f1<;>by_cases hs:(x.f3.size:Int)=1<;>by_cases h0:x.f2=0<;>cases hi:tT x.f2<;>simp[hs,h0,h8,hi,inr]
 ·rw[if_neg h8]
  cases hi:tT x.f2
  ·by_cases h0:x.f0=0
   ·simp[h0]
   ·by_cases h1:x.f0=1
    ·simp[h1]
    ·by_cases h3:x.f0=3<;>simp[h0,h1,h3,h8]
  ·by_cases h0:x.f0=0
   ·simp[h0]
   ·by_cases h1:x.f0=1
    ·simp[h1]
    ·by_cases h3:x.f0=3
     ·by_cases hl:x.f3.toList=([]:List UInt8)<;>cases h1:x.f1<;>simp[h3,hl]
     ·simp[h0,h1,h3,h8]
theorem Ry(x:nC):mD.f x.f0 x.f1 x.f2 x.f3=some (!jA x):=by
 unfold mD.f
 rw[a1Y]
 rfl
def SmS(x:pV):Prop:=Small x.f2∧x.f3.size≤4000000∧Small x.f7∧x.f8.size≤4000000
def l8(x:pV):Bool:=inr x.f1 1 3&&(jM x.f2&&(jM x.f7&&(j6 x.f3&&(j6 x.f8&&(inr x.f6 0 (x.f3.size:Int)&&pU x.f10.f0 x.f10.f1)))))
theorem Y7(x:pV)(h:SmS x):Ev (fun k=>jg.f k x.f0 x.f1 x.f2 x.f3 x.f4 x.f5 x.f6 x.f7 x.f8 x.f9 x.f10.f0 x.f10.f1) (l8 x):=by
 obtain⟨h2,h3,h7,h8⟩:=h
 unfold jg.f l8
 exact Ev.and (Ev.eq (Ic _ _ _)) fun _=>Ev.and (vW x.f2 h2.2) fun _=>Ev.and (vW x.f7 h7.2) fun _=>Ev.and (nX x.f3 (by omega)) fun _=>Ev.and (nX x.f8 (by omega)) fun _=>Ev.and (Ev.eq (Ic _ _ _)) fun _=>Ev.one (Ev.eq (VY _ _))
theorem Rz(x:pV)(h:SmS x):Ev (fun k=>iL.f k x.f0 x.f1 x.f2 x.f3 x.f4 x.f5 x.f6 x.f7 x.f8 x.f9 x.f10.f0 x.f10.f1) (tT x.f0&&l8 x):=by
 obtain⟨h2,h3,h7,h8⟩:=h
 have l2:=h2.1
 have l7:=h7.1
 unfold iL.f l8
 exact Ev.and (Ev.eq (AL _)) fun _=>Ev.and (Ev.eq (xk _ _ _)) fun _=>Ev.and (nW x.f2 (by omega) h2.2) fun _=>Ev.and (nW x.f7 (by omega) h7.2) fun _=>Ev.and (kI x.f3 (by omega)) fun _=>Ev.and (kI x.f8 (by omega)) fun _=>Ev.and (Ev.eq (xk _ _ _)) fun _=>Ev.one (Ev.eq (Pq _ _))
theorem uI(l:List pV)(i:Nat)(h:i<l.length):fe l (i:Int)=l[i]:=by
 unfold fe
 rw[Int.toNat_natCast,List.getD_eq_getElem?_getD,List.getElem?_eq_getElem h]
 rfl
theorem VZ(l:List nC)(i:Nat)(h:i<l.length):Bp l (i:Int)=l[i]:=by
 unfold Bp
 rw[Int.toNat_natCast,List.getD_eq_getElem?_getD,List.getElem?_eq_getElem h]
 rfl
def sG(ans:Bool)(l:List pV)(i:Nat):Bool:=
 tT (fe l i).f0&&((decide (i=0)||decide ((fe l ((i:Int)-1)).f0<(fe l i).f0))&&((ans||decide ((fe l i).f0=2*(i:Int)+1))&&l8 (fe l i)))
def uJ(ans:Bool)(l:List pV):Nat→Nat→Bool
 |0,_=>true
 |d+1,i=>sG ans l i&&uJ ans l d (i+1)
def uK(l1:List bg)(m1:Int)(l3:List bg)(m3:Int)(c:ByteArray)(s r:Int)(w:List nC):Bool:=
 decide ((w.length:Int)≤60)&&(w.all jA&&(decide ((c.size:Int)≤600)&&(eH l1 m1&&(eH l3 m3&&pU s r))))
def xW(ans:Bool)(l1:List bg)(m1:Int)(l3:List bg)(m3:Int)(c:ByteArray)(l:List pV)(s r:Int)(w:List nC):Bool:=uJ ans l l.length 0&&uK l1 m1 l3 m3 c s r w
def SmE(l1 l3:List bg)(c:ByteArray)(l:List pV)(w:List nC):Prop:=
 Small l1∧Small l3∧c.size≤4000000∧(l.length≤4000000∧∀x∈l,SmS x)∧(w.length≤4000000∧∀x∈w,x.f3.size≤4000000)
theorem Fj(ans:Bool)(l:List pV)(d:Nat):∀i:Nat,uJ ans l d i=true↔∀j:Nat,i≤j→j<i+d→sG ans l j=true:=by
 induction d with
 |zero=>intro i;exact⟨fun _ j h1 h2=>by omega,fun _=>rfl⟩
 |succ d ih=>
  intro i
  unfold uJ
  rw[Bool.and_eq_true,ih]
  refine⟨fun h j h1 h2=>?_,fun h=>⟨h i (Nat.le_refl _) (by omega),fun j h1 h2=>h j (by omega) (by omega)⟩⟩
  by_cases e:j=i
  ·rw[e];exact h.1
  ·exact h.2 j (by omega) (by omega)
theorem Ps(l:List pV)(m i:Nat)(h:i<m)(hm:m≤l.length):fe (l.take m) (i:Int)=fe l (i:Int):=by
 rw[uI _ i (by rw[List.length_take];omega),uI l i (by omega),List.getElem_take]
theorem step_take(ans:Bool)(l:List pV)(m i:Nat)(h:i<m)(hm:m≤l.length):sG ans (l.take m) i=sG ans l i:=by
 unfold sG
 rw[Ps l m i h hm]
 by_cases h0:i=0
 ·simp only[h0,decide_true,Bool.true_or]
 ·have e:((i:Int)-1)=((i-1:Nat):Int):=by omega
  rw[e,Ps l m (i-1) (by omega) hm]
theorem a1Z(ans:Bool)(l1:List bg)(m1:Int)(l3:List bg)(m3:Int)(c:ByteArray)(l:List pV)(s r:Int)(w:List nC)(m:Nat)(hm:m≤l.length)(h:xW ans l1 m1 l3 m3 c l s r w=true):xW ans l1 m1 l3 m3 (⟨#[]⟩:ByteArray) (l.take m) s r []=true:=by
 unfold xW uK at*
 simp only[Bool.and_eq_true]at h
 obtain⟨h1,_,_,_,h2,h3,h4⟩:=h
 rw[h2,h3,h4,Bool.and_eq_true]
 refine⟨(Fj _ _ _ _).2 (fun j _ hj=>?_),by decide⟩
 rw[List.length_take]at hj
 rw[step_take ans l m j (by omega) hm]
 exact(Fj _ _ _ _).1 h1 j (Nat.zero_le _) (by omega)
theorem Pt(ans:Bool)(l:List pV)(h:uJ ans l l.length 0=true):∀j:Nat,(h1:j<l.length)→(h0:0<j)→(l[0]'(by omega)).f0<l[j].f0:=by
 intro j
 induction j with
 |zero=>intro _ h0;omega
 |succ j ih=>
  intro h1 _
  have hs:=(Fj _ _ _ _).1 h (j+1) (Nat.zero_le _) (by omega)
  unfold sG at hs
  rw[show(((j+1:Nat):Int)-1)=((j:Nat):Int) by omega,uI l (j+1) h1,uI l j (by omega)]at hs
  simp only[Bool.and_eq_true,Bool.or_eq_true,decide_eq_true_eq,Nat.add_one_ne_zero,false_or]at hs
  have h2:=hs.2.1
  rcases Nat.eq_zero_or_pos j with rfl|hj
  ·exact h2
  ·have:=ih (by omega) hj
   omega
theorem agl(ans:Bool)(l1:List bg)(m1:Int)(l3:List bg)(m3:Int)(c:ByteArray)(l:List pV)(s r:Int)(w:List nC)(n:Nat)(hn:l.length=n+1)(h:xW ans l1 m1 l3 m3 c l s r w=true):xW ans l1 m1 l3 m3 c (fe l (n:Int)::l.take n) s r w=decide (((n+1:Nat):Int)=1):=by
 by_cases h0:n=0
 ·subst h0
  obtain⟨x,rfl⟩:∃x,l=[x]:=by
   cases l with
   |nil=>simp at hn
   |cons x l=>cases l with
    |nil=>exact⟨x,rfl⟩
    |cons y l=>simp at hn
  exact h
 ·rw[decide_eq_false (by omega)]
  unfold xW at*
  rw[Bool.and_eq_true]at h
  have hb:=Pt ans l h.1 n (by omega) (by omega)
  have hlen:(fe l (n:Int)::l.take n).length=n+1:=by rw[List.length_cons,List.length_take];omega
  have:uJ ans (fe l (n:Int)::l.take n) (fe l (n:Int)::l.take n).length 0=false:=by
   rw[←Bool.not_eq_true]
   intro hc
   have hs:=Pt _ _ hc 1 (by omega) (by omega)
   simp only[List.getElem_cons_zero,List.getElem_cons_succ,List.getElem_take]at hs
   rw[uI l n (by omega)]at hs
   omega
  rw[this,Bool.false_and]
end Go.Proofs.YtokblgdgpnakpaaGreat.Pure
namespace Go.Proofs.YtokblgdgpnakpaaGreat.PFnEndLess
open Go.RowKit Go.Proofs.YtokblgdgpnakpaaGreatW.PrintWords Go.Proofs.YtokblgdgpnakpaaGreatW.PrintLast Go.Proofs.YtokblgdgpnakpaaGreatW.PrintMore Go.Proofs.YtokblgdgpnakpaaGreat.Lm
open Go.Proofs.YtokblgdgpnakpaaGreat.Pure
attribute [local go_sem] bF bD cZ d9 aY aX bH bI
def FR(b:Nat)(w:World)(v:Value)(l:List bg):Prop:=Kd.R iF 89 w b (fun _=>True) v l
def uL(w w':World):Prop:=∀(k:Nat)(cs:Array Value),w.heap[k]?=some (Obj.cells cs 89 (0,0))→w'.heap[k]?=w.heap[k]?
section
variable {b:Nat} {w w' w0 w1 w2:World} {v:Value} {l:List bg} {X X':Nat→Prop} {M M0 M1 M2 M':Nat→Nat→Prop}
theorem FR.stay(h:FR b w v l)(hk:uL w w'):FR b w' v l:=
 Kd.R_mono (Kd.R_move (Kd.R_bound h) (fun k hk'=>by
  obtain⟨_,_,_,q,hq,cs,hc⟩:=hk'
  have hq':q=89:=by
   rcases List.mem_cons.1 hq with e|e
   ·exact e
   ·exact absurd e (List.not_mem_nil)
  subst hq'
  exact hk k cs hc)) (fun _ _=>trivial)
theorem FR.slice(h:FR b w v l):∃A c,v= .slice A l.length c∧l.length≤c∧Kd.C iF w A l.length l:=Kd.R_reads h
theorem FR.one(h:FR b w v l):v.oneCell'=true:=by obtain⟨A,c,rfl,_⟩:=h.slice;rfl
theorem FR.of{n:Nat}{ok:Nat→Prop}(h:Kd.R iF 89 w n ok v l)(hb:b≤n):FR b w v l:=Kd.R_lower (Kd.R_mono h (fun _ _=>trivial)) hb
theorem FR.nil(b:Nat)(w:World):FR b w (.slice none 0 0) []:=Kd.R_nil _ _ _ _ _
theorem uL.refl(w:World):uL w w:=fun _ _ _=>rfl
theorem uL.trans(h:uL w w1)(k:uL w1 w2):uL w w2:=fun i cs hi=>(k i cs ((h i cs hi).trans hi)).trans (h i cs hi)
theorem uL.below(h:Below w.heap.size w w'):uL w w':=fun k _ hc=>h.block k (fZ hc)
structure ST(b:Nat)(w:World)(v2:Value)(x3:ByteArray)(x6:Int)(v7:Value)(x8:ByteArray):Prop where
 h2:∃l,FR b w v2 l∧jM l=true
 h7:∃l,FR b w v7 l∧jM l=true
 s0:0≤x6
 s1:x6≤(x3.size:Int)
 s3:x3.size≤100
 s8:x8.size≤16
theorem ST.stay{v2 v7:Value}{x3 x8:ByteArray}{x6:Int}(h:ST b w v2 x3 x6 v7 x8)(hk:uL w w'):ST b w' v2 x3 x6 v7 x8:=by
 obtain⟨⟨l2,h2,o2⟩,⟨l7,h7,o7⟩,s0,s1,s3,s8⟩:=h
 exact⟨⟨l2,h2.stay hk,o2⟩,⟨l7,h7.stay hk,o7⟩,s0,s1,s3,s8⟩
def SE(b:Nat)(w:World)(cs:List Value):Prop:=∃x0 x1 v2 x3 x4 x5 x6 v7 x8 x9 x10 ql,cs=[.int .i64 x0,.int .i64 x1,v2,.string x3,.bool x4,.bool x5,.int .i64 x6,v7,.string x8,.bool x9,.int .i64 x10,.int .i64 ql]∧ST b w v2 x3 x6 v7 x8
def FT(x0:Int)(x3:ByteArray):Prop:=(x0=8→1≤x3.size)∧x3.size≤255
def FE(cs:List Value):Prop:=∃x0 x1 x2 x3,cs=[.int .i64 x0,.bool x1,.int .i64 x2,.string x3]∧FT x0 x3
theorem SE.stay{cs:List Value}(h:SE b w cs)(hk:uL w w'):SE b w' cs:=by
 obtain⟨x0,x1,v2,x3,x4,x5,x6,v7,x8,x9,x10,ql,e,t⟩:=h
 exact⟨x0,x1,v2,x3,x4,x5,x6,v7,x8,x9,x10,ql,e,t.stay hk⟩
theorem SE.len{cs:List Value}(h:SE b w cs):cs.length=12:=by
 obtain⟨x0,x1,v2,x3,x4,x5,x6,v7,x8,x9,x10,ql,rfl,t⟩:=h;rfl
theorem FE.len{cs:List Value}(h:FE cs):cs.length=4:=by obtain⟨x0,x1,x2,x3,rfl,t⟩:=h;rfl
theorem SE.one{cs:List Value}(h:SE b w cs):∀u∈cs,u.oneCell'=true:=by
 obtain⟨x0,x1,v2,x3,x4,x5,x6,v7,x8,x9,x10,ql,rfl,t⟩:=h
 obtain⟨l2,h2,_⟩:=t.h2
 obtain⟨l7,h7,_⟩:=t.h7
 intro u hu
 simp only[List.mem_cons,List.not_mem_nil,or_false]at hu
 rcases hu with rfl|rfl|rfl|rfl|rfl|rfl|rfl|rfl|rfl|rfl|rfl|rfl<;>first|rfl|exact h2.one|exact h7.one
theorem FE.one{cs:List Value}(h:FE cs):∀u∈cs,u.oneCell'=true:=by
 obtain⟨x0,x1,x2,x3,rfl,t⟩:=h
 intro u hu
 simp only[List.mem_cons,List.not_mem_nil,or_false]at hu
 rcases hu with rfl|rfl|rfl|rfl<;>rfl
def EE(cs:List Value):Prop:=cs.length=5∧∀u∈cs,u.oneCell'=true
def wide(T:Nat):Nat:=if T=39 then 12 else if T=42 then 4 else 5
def Elem(b:Nat)(w:World)(T:Nat)(cs:List Value):Prop:=(T=39∧SE b w cs)∨(T=42∧FE cs)∨(T=99∧EE cs)
theorem Elem.stay{T:Nat}{cs:List Value}(h:Elem b w T cs)(hk:uL w w'):Elem b w' T cs:=by
 rcases h with⟨e,h⟩|⟨e,h⟩|h
 ·exact .inl ⟨e,h.stay hk⟩
 ·exact .inr (.inl ⟨e,h⟩)
 ·exact .inr (.inr h)
theorem Elem.len{T:Nat}{cs:List Value}(h:Elem b w T cs):cs.length=wide T:=by
 rcases h with⟨rfl,h⟩|⟨rfl,h⟩|⟨rfl,h⟩
 ·exact h.len
 ·exact h.len
 ·exact h.1
theorem Elem.one{T:Nat}{cs:List Value}(h:Elem b w T cs):∀u∈cs,u.oneCell'=true:=by
 rcases h with⟨rfl,h⟩|⟨rfl,h⟩|⟨rfl,h⟩
 ·exact h.one
 ·exact h.one
 ·exact h.2
theorem Elem.ty{T:Nat}{cs:List Value}(h:Elem b w T cs):T≠89:=by
 rcases h with⟨rfl,h⟩|⟨rfl,h⟩|⟨rfl,h⟩<;>decide
def seg(cs:Array Value)(i m:Nat):List Value:=(cs.toList.drop (i*m)).take m
def TW(b:Nat)(M:Nat→Nat→Prop)(w:World):Prop:=∀k n,M k n→b≤k∧∃T cs,w.heap[k]?=some (.cells cs T (0,0))∧T≠89∧n*wide T≤cs.size∧∀i,i<n→Elem b w T (seg cs i (wide T))
theorem TW.move(h:TW b M w)(hk:uL w w')(hm:∀k n,M k n→w'.heap[k]?=w.heap[k]?):TW b M w':=by
 intro k n hM
 obtain⟨hb,T,cs,e,t,hs,he⟩:=h k n hM
 exact⟨hb,T,cs,(hm k n hM).trans e,t,hs,fun i hi=>(he i hi).stay hk⟩
theorem TW.lt{k n:Nat}(h:TW b M w)(hM:M k n):k<w.heap.size:=by
 obtain⟨_,T,cs,e,_⟩:=h k n hM
 exact fZ e
theorem TW.none(b:Nat)(w:World):TW b (fun _ _=>False) w:=fun _ _ h=>h.elim
structure TS(b:Nat)(X:Nat→Prop)(M:Nat→Nat→Prop)(w:World)(M':Nat→Nat→Prop)(w':World):Prop where
 tw:TW b M' w'
 mono:∀k n,M k n→M' k n
 new:∀k n,M' k n→(∃m,M k m)∨w.heap.size≤k
 size:w.heap.size≤w'.heap.size
 os:Below 0 w w'
 stay:uL w w'
 keep:∀k,k<w.heap.size→¬X k→(∀n,¬M k n)→w'.heap[k]?=w.heap[k]?
 shape:∀k n,M k n→∀cs T,w.heap[k]?=some (.cells cs T (0,0))→∃cs',w'.heap[k]?=some (.cells cs' T (0,0))∧cs'.size=cs.size
theorem RA{n:Nat}(h:Below n w w'):Below 0 w w':=⟨h.os,h.tape,h.output,h.size,fun _ hk=>absurd hk (Nat.not_lt_zero _)⟩
theorem TS.refl(h:TW b M w):TS b X M w M w:=⟨h,fun _ _ h=>h,fun k n h=>.inl ⟨n,h⟩,Nat.le_refl _,Below.refl _ _,uL.refl _,fun _ _ _ _=>rfl,fun _ _ _ cs _ e=>⟨cs,e,rfl⟩⟩
theorem TS.trans(h:TS b X M w M1 w1)(k:TS b X' M1 w1 M2 w2)(hX:∀k,X' k→X k∨w.heap.size≤k):TS b X M w M2 w2 where
 tw:=k.tw
 mono:=fun i n hM=>k.mono i n (h.mono i n hM)
 new:=fun i n hM=>by
  rcases k.new i n hM with⟨m,h1⟩|h1
  ·exact h.new i m h1
  ·exact .inr (Nat.le_trans h.size h1)
 size:=Nat.le_trans h.size k.size
 os:=⟨k.os.os.trans h.os.os,k.os.tape.trans h.os.tape,k.os.output.trans h.os.output,Nat.le_trans h.os.size k.os.size,fun _ h=>absurd h (Nat.not_lt_zero _)⟩
 stay:=h.stay.trans k.stay
 keep:=fun i hi hX' hM=>(k.keep i (Nat.lt_of_lt_of_le hi h.size) (fun h1=>(hX i h1).elim hX' (fun h2=>Nat.not_le.2 hi h2)) (fun n h1=>(h.new i n h1).elim (fun⟨m,h2⟩=>hM m h2) (fun h2=>Nat.not_le.2 hi h2))).trans (h.keep i hi hX' hM)
 shape:=fun i n hM cs T e=>by
  obtain⟨cs1,e1,s1⟩:=h.shape i n hM cs T e
  obtain⟨cs2,e2,s2⟩:=k.shape i n (h.mono i n hM) cs1 T e1
  exact⟨cs2,e2,s2.trans s1⟩
theorem TS.below1(h:TW b M w)(hb:Below w.heap.size w w'):TS b X M w M w':=
 ⟨h.move (.below hb) (fun k n hM=>hb.block k (h.lt hM)),fun _ _ h=>h,fun k n h=>.inl ⟨n,h⟩,hb.size,RA hb,.below hb,fun k hk _ _=>hb.block k hk,fun k n hM cs T e=>⟨cs,(hb.block k (h.lt hM)).trans e,rfl⟩⟩
theorem TS.below(h:TS b X M0 w0 M w)(hb:Below w.heap.size w w'):TS b X M0 w0 M w':=h.trans (X':=fun _=>False) (.below1 h.tw hb) (fun _ h=>h.elim)
theorem TS.box{g:Nat}(h:TW b M w)(hk:ay w w' g none)(hb:Below 0 w w')(hg:∀n,¬M g n)(h89:∀cs,w.heap[g]?≠some (.cells cs 89 (0,0))):TS b (fun k=>k=g) M w M w':=by
 have hst:uL w w':=fun k cs hc=>hk.2 k (fZ hc) (fun e=>h89 cs (e▸hc)) (by simp)
 have hM:∀k n,M k n→w'.heap[k]?=w.heap[k]?:=fun k n hM=>hk.2 k (h.lt hM) (fun e=>hg n (e▸hM)) (by simp)
 exact⟨h.move hst hM,fun _ _ h=>h,fun k n h=>.inl ⟨n,h⟩,hk.1,hb,hst,fun k hlt hne _=>hk.2 k hlt hne (by simp),fun k n h cs T e=>⟨cs,(hM k n h).trans e,rfl⟩⟩
theorem TS.put{k:Nat}{cs cs':Array Value}{T n:Nat}(h:TW b M w)(hM:M k n)(e:w.heap[k]?=some (.cells cs T (0,0)))(hb:Below 0 w w')(hk:ay w w' k none)(e':w'.heap[k]?=some (.cells cs' T (0,0)))(hs:cs'.size=cs.size)
 (he:∀m,M k m→∀i,i<m→Elem b w' T (seg cs' i (wide T))):TS b X M w M w':=by
 obtain⟨hbk,T',cs1,e1,ht,_⟩:=h k n hM
 have hT:T'=T:=by rw[e]at e1;injection e1 with e1;injection e1 with _ e1;exact e1.symm
 subst hT
 have hst:uL w w':=fun i ci hc=>hk.2 i (fZ hc) (fun ei=>by subst ei;rw[e]at hc;injection hc with hc;injection hc with _ hc;exact ht hc) (by simp)
 refine⟨?_,fun _ _ h=>h,fun k n h=>.inl ⟨n,h⟩,hk.1,hb,hst,fun i hlt _ hne=>hk.2 i hlt (fun ei=>hne n (ei▸hM)) (by simp),?_⟩
 ·intro i m hm
  by_cases ei:i=k
  ·subst ei
   obtain⟨_,T2,cs2,e2,_,s2,_⟩:=h i m hm
   have:cs2=cs∧T2=T':=by rw[e]at e2;injection e2 with e2;injection e2 with e3 e4;exact⟨e3.symm,e4.symm⟩
   obtain⟨rfl,rfl⟩:=this
   exact⟨hbk,T2,cs',e',ht,by rw[hs];exact s2,he m hm⟩
  ·obtain⟨hbi,T2,cs2,e2,t2,s2,h2⟩:=h i m hm
   exact⟨hbi,T2,cs2,(hk.2 i (fZ e2) ei (by simp)).trans e2,t2,s2,fun j hj=>(h2 j hj).stay hst⟩
 ·intro i m hm ci Ti ei
  by_cases eik:i=k
  ·subst eik
   rw[e]at ei
   injection ei with ei
   injection ei with e3 e4
   subst e3 e4
   exact⟨cs',e',hs⟩
  ·exact⟨ci,(hk.2 i (fZ ei) eik (by simp)).trans ei,rfl⟩
theorem TS.add{k n:Nat}(h:TS b X M0 w0 M w)(hk:(∃m,M k m)∨w0.heap.size≤k)(ht:b≤k∧∃T cs,w.heap[k]?=some (.cells cs T (0,0))∧T≠89∧n*wide T≤cs.size∧∀i,i<n→Elem b w T (seg cs i (wide T))):
 TS b X M0 w0 (fun i m=>M i m∨(i=k∧m=n)) w where
 tw:=fun i m hm=>by
  rcases hm with hm|⟨rfl,rfl⟩
  ·exact h.tw i m hm
  ·exact ht
 mono:=fun i m hm=>.inl (h.mono i m hm)
 new:=fun i m hm=>by
  rcases hm with hm|⟨rfl,rfl⟩
  ·exact h.new i m hm
  ·rcases hk with⟨m',hk⟩|hk
   ·exact h.new i m' hk
   ·exact .inr hk
 size:=h.size
 os:=h.os
 stay:=h.stay
 keep:=h.keep
 shape:=h.shape
def SL(M:Nat→Nat→Prop)(w:World)(T:Nat)(v:Value)(N:Nat):Prop:=∃A n c,v= .slice A n c∧n≤N∧((A=none∧n=0∧c=0)∨∃k cs,A=some ⟨k,0,none⟩∧M k n∧w.heap[k]?=some (.cells cs T (0,0))∧n≤c∧cs.size=c*wide T∧c≤maxLen)
theorem SL.ts{T N:Nat}(h:SL M w T v N)(k:TS b X M w M' w'):SL M' w' T v N:=by
 obtain⟨A,n,c,e,hn,h|⟨i,cs,e1,h1,h2,h3,h4,h5⟩⟩:=h
 ·exact⟨A,n,c,e,hn,.inl h⟩
 ·obtain⟨cs',e2,s2⟩:=k.shape i n h1 cs T h2
  exact⟨A,n,c,e,hn,.inr ⟨i,cs',e1,k.mono i n h1,e2,h3,s2.trans h4,h5⟩⟩
theorem SL.mono{T N N':Nat}(h:SL M w T v N)(hN:N≤N'):SL M w T v N':=by
 obtain⟨A,n,c,e,hn,h⟩:=h
 exact⟨A,n,c,e,Nat.le_trans hn hN,h⟩
theorem SL.nil(M:Nat→Nat→Prop)(w:World)(T N:Nat):SL M w T (.slice none 0 0) N:=⟨none,0,0,rfl,Nat.zero_le _,.inl ⟨rfl,rfl,rfl⟩⟩
theorem SL.one{T N:Nat}(h:SL M w T v N):v.oneCell'=true:=by obtain⟨A,n,c,rfl,_⟩:=h;rfl
structure ET(b:Nat)(M:Nat→Nat→Prop)(w:World)(N C:Nat)(v1:Value)(x2:Int)(v3:Value)(x4:Int)(x5:ByteArray)(v6 v9:Value):Prop where
 t1:∃l,FR b w v1 l∧eH l x2=true
 t3:∃l,FR b w v3 l∧eH l x4=true
 c5:x5.size≤C
 s6:SL M w 39 v6 N
 s9:SL M w 42 v9 N
theorem ET.ts{N N' C:Nat}{v1 v3 v6 v9:Value}{x2 x4:Int}{x5:ByteArray}(h:ET b M w N C v1 x2 v3 x4 x5 v6 v9)(k:TS b X M w M' w')(hN:N≤N'):ET b M' w' N' C v1 x2 v3 x4 x5 v6 v9:=by
 obtain⟨⟨l1,h1,o1⟩,⟨l3,h3,o3⟩,c5,s6,s9⟩:=h
 exact⟨⟨l1,h1.stay k.stay,o1⟩,⟨l3,h3.stay k.stay,o3⟩,c5,(s6.ts k).mono hN,(s9.ts k).mono hN⟩
theorem ET.ones{N C:Nat}{v1 v3 v6 v9:Value}{x2 x4:Int}{x5:ByteArray}(h:ET b M w N C v1 x2 v3 x4 x5 v6 v9):v1.oneCell'=true∧v3.oneCell'=true∧v6.oneCell'=true∧v9.oneCell'=true:=by
 obtain⟨⟨l1,h1,o1⟩,⟨l3,h3,o3⟩,c5,s6,s9⟩:=h
 exact⟨h1.one,h3.one,s6.one,s9.one⟩
structure qW where
 g:Nat
 cs:List Value
 T:Nat
abbrev lM:=(Nat→Nat→Prop)→World→Prop
def Mon(b:Nat)(G:lM):Prop:=∀X M w M' w',TS b X M w M' w'→G M w→G M' w'
theorem Mon.top(b:Nat):Mon b (fun _ _=>True):=fun _ _ _ _ _ _ _=>trivial
theorem Mon.and{G H:lM}(h:Mon b G)(k:Mon b H):Mon b (fun M w=>G M w∧H M w):=fun X M w M' w' t g=>⟨h X M w M' w' t g.1,k X M w M' w' t g.2⟩
theorem Mon.fr(v:Value)(l:List bg):Mon b (fun _ w=>FR b w v l):=fun _ _ _ _ _ t h=>h.stay t.stay
theorem Mon.st(v2:Value)(x3:ByteArray)(x6:Int)(v7:Value)(x8:ByteArray):Mon b (fun _ w=>ST b w v2 x3 x6 v7 x8):=fun _ _ _ _ _ t h=>h.stay t.stay
theorem Mon.et(N C:Nat)(v1:Value)(x2:Int)(v3:Value)(x4:Int)(x5:ByteArray)(v6 v9:Value):Mon b (fun M w=>ET b M w N C v1 x2 v3 x4 x5 v6 v9):=fun _ _ _ _ _ t h=>h.ts t (Nat.le_refl _)
theorem Mon.sl(T N:Nat)(v:Value):Mon b (fun M w=>SL M w T v N):=fun _ _ _ _ _ t h=>h.ts t
structure LW(b:Nat)(X:Nat→Prop)(M0:Nat→Nat→Prop)(w0:World)(L:List qW)(G:lM)(M:Nat→Nat→Prop)(w:World):Prop where
 ts:TS b X M0 w0 M w
 nd:(L.map qW.g).Nodup
 bx:∀x∈L,w.heap[x.g]?=some (.cells x.cs.toArray x.T (0,0))∧x.T≠89∧(∀n,¬M x.g n)∧(X x.g∨w0.heap.size≤x.g)
 g:G M w
 gm:Mon b G
variable {L:List qW} {G H:lM}
theorem LW.start(h:TW b M w)(g:G M w)(gm:Mon b G):LW b X M w [] G M w:=⟨.refl h,List.nodup_nil,fun _ h=>(by cases h),g,gm⟩
theorem LW.at(h:LW b X M0 w0 L G M w)(i:Nat){g T:Nat}{cs:List Value}(e:L[i]?=some ⟨g,cs,T⟩):w.heap[g]?=some (.cells cs.toArray T (0,0)):=(h.bx _ (List.mem_of_getElem? e)).1
theorem LW.fact(h:LW b X M0 w0 L G M w)(k:H M w)(km:Mon b H):LW b X M0 w0 L (fun M w=>G M w∧H M w) M w:=⟨h.ts,h.nd,h.bx,⟨h.g,k⟩,h.gm.and km⟩
theorem LW.call(h:LW b X M0 w0 L G M w)(k:TS b (fun _=>False) M w M' w'):LW b X M0 w0 L G M' w' where
 ts:=h.ts.trans k (fun _ h=>h.elim)
 nd:=h.nd
 bx:=fun x hx=>by
  obtain⟨h1,h2,h3,h4⟩:=h.bx x hx
  exact⟨(k.keep x.g (fZ h1) (fun h=>h) h3).trans h1,h2,fun n hn=>(k.new _ n hn).elim (fun⟨m,hm⟩=>h3 m hm) (fun h5=>Nat.not_lt.2 h5 (fZ h1)),h4⟩
 g:=h.gm _ _ _ _ _ k h.g
 gm:=h.gm
theorem LW.quiet(h:LW b X M0 w0 L G M w)(hb:Below w.heap.size w w'):LW b X M0 w0 L G M w':=h.call (.below1 h.ts.tw hb)
theorem LW.push(h:LW b X M0 w0 L G M w){g T:Nat}{cs:List Value}(hg:g=w.heap.size)(e:w'.heap[g]?=some (.cells cs.toArray T (0,0)))(hb:Below w.heap.size w w')(hT:T≠89):LW b X M0 w0 (⟨g,cs,T⟩::L) G M w' where
 ts:=(h.quiet hb).ts
 nd:=by
  rw[List.map_cons,List.nodup_cons]
  refine⟨fun hm=>?_,h.nd⟩
  obtain⟨x,hx,ex⟩:=List.mem_map.1 hm
  have:=fZ (h.bx x hx).1
  simp only at ex
  omega
 bx:=fun x hx=>by
  rcases List.mem_cons.1 hx with rfl|hx
  ·exact⟨e,hT,fun n hn=>by have:=h.ts.tw.lt hn;simp only at this;omega,.inr (by simp only;rw[hg];exact h.ts.size)⟩
  ·exact(h.quiet hb).bx x hx
 g:=(h.quiet hb).g
 gm:=h.gm
theorem LW.upd(h:LW b X M0 w0 L G M w)(i:Nat){g T:Nat}{cs cs':List Value}(ei:L[i]?=some ⟨g,cs,T⟩)(e:w'.heap[g]?=some (.cells cs'.toArray T (0,0)))(hk:ay w w' g none)(hb:Below 0 w w'):LW b X M0 w0 (L.set i ⟨g,cs',T⟩) G M w':=by
 obtain⟨h1,h2,h3,h4⟩:=h.bx _ (List.mem_of_getElem? ei)
 have hi:i<L.length:=(List.getElem?_eq_some_iff.1 ei).1
 have hts:=TS.box h.ts.tw hk hb h3 (fun cs he=>by rw[h1]at he;injection he with he;injection he with _ he;exact h2 he)
 refine⟨h.ts.trans hts (fun k e=>e▸h4),?_,fun x hx=>?_,h.gm _ _ _ _ _ hts h.g,h.gm⟩
 ·have:(L.set i ⟨g,cs',T⟩).map qW.g=L.map qW.g:=by
   rw[List.map_set]
   refine List.ext_getElem? fun j=>?_
   by_cases hj:i=j
   ·subst hj
    rw[List.getElem?_set_self (by simpa using hi),List.getElem?_map,ei];rfl
   ·rw[List.getElem?_set_ne hj]
  rw[this];exact h.nd
 ·obtain⟨j,hj⟩:=List.mem_iff_getElem?.1 hx
  by_cases hij:i=j
  ·subst hij
   rw[List.getElem?_set_self hi]at hj
   obtain rfl:=Option.some.inj hj
   exact⟨e,h2,h3,h4⟩
  ·rw[List.getElem?_set_ne hij]at hj
   have hm:=List.mem_of_getElem? hj
   obtain⟨g1,g2,g3,g4⟩:=h.bx x hm
   refine⟨(hk.2 x.g (fZ g1) (fun eg=>?_) (by simp)).trans g1,g2,g3,g4⟩
   have hp:=List.pairwise_iff_getElem.1 h.nd
   have hi':i<(L.map qW.g).length:=by simpa using hi
   have hjl:j<L.length:=(List.getElem?_eq_some_iff.1 hj).1
   have hj':j<(L.map qW.g).length:=by simpa using hjl
   have ea:(L.map qW.g)[i]=g:=by rw[List.getElem_map];rw[(List.getElem?_eq_some_iff.1 ei).2]
   have eb:(L.map qW.g)[j]=g:=by rw[List.getElem_map];rw[(List.getElem?_eq_some_iff.1 hj).2];exact eg
   rcases Nat.lt_or_gt_of_ne hij with hlt|hlt
   ·exact hp i j hi' hj' hlt (ea.trans eb.symm)
   ·exact hp j i hj' hi' hlt (eb.trans ea.symm)
theorem LW.drop{x:qW}(h:LW b X M0 w0 (x::L) G M w):LW b X M0 w0 L G M w:=⟨h.ts,(List.nodup_cons.1 h.nd).2,fun y hy=>h.bx y (List.mem_cons_of_mem _ hy),h.g,h.gm⟩
theorem LW.less(h:LW b X M0 w0 L G M w)(k:H M w)(km:Mon b H):LW b X M0 w0 L H M w:=⟨h.ts,h.nd,h.bx,k,km⟩
end
theorem a2a(vs:List Value):∀(j:Nat)(c:List Value),j+vs.length≤c.length→(c.take j++vs++c.drop (j+vs.length)).length=c.length:=by
 intro j c h
 simp only[List.length_append,List.length_take,List.length_drop]
 omega
theorem uM{g T:Nat}(vs:List Value):∀(j:Nat)(W:World)(c:List Value),W.heap[g]?=some (.cells c.toArray T (0,0))→j+vs.length≤c.length→(W.setCells g j vs).heap[g]?=some (.cells (c.take j++vs++c.drop (j+vs.length)).toArray T (0,0)):=by
 induction vs with
 |nil=>intro j W c h _;simpa [World.setCells]using h
 |cons v r ih=>
  intro j W c h hl
  simp only[List.length_cons]at hl
  have h1:(W.setCell ⟨g,j,none⟩ v).heap[g]?=some (.cells (c.set j v).toArray T (0,0)):=Tt h j v (by simp)
  have h2:=ih (j+1) _ (c.set j v) h1 (by rw[List.length_set];omega)
  have e:(c.set j v).take (j+1)++r++(c.set j v).drop (j+1+r.length)=c.take j++(v::r)++c.drop (j+(r.length+1)):=by
   rw[List.take_set,List.drop_set_of_lt (by omega)]
   have:(c.take (j+1)).set j v=c.take j++[v]:=by
    have hlen:(c.take j).length=j:=by rw[List.length_take];omega
    rw[List.take_succ_eq_append_getElem (by omega),List.set_append,if_neg (by omega),hlen,Nat.sub_self]
    rfl
   rw[this]
   simp[Nat.add_comm,Nat.add_left_comm]
  rw[e]at h2
  exact h2
theorem qR{g:Nat}(vs:List Value):∀(j:Nat)(V W:World),ay V W g none→ay V (W.setCells g j vs) g none:=by
 induction vs with
 |nil=>intro j V W h;exact h
 |cons v r ih=>intro j V W h;exact ih (j+1) V _ (ay.set_ h j v)
theorem sH{g:Nat}(vs:List Value):∀(j n:Nat)(V W:World),Below n V W→n≤g→Below n V (W.setCells g j vs):=by
 induction vs with
 |nil=>intro j n V W h _;exact h
 |cons v r ih=>intro j n V W h hn;exact ih (j+1) n V _ (Below.setCell h hn v) hn
section
variable {P:Program}
theorem ni(w:World)(b o:Nat)(ty:TypeId)(v:Value)(d:TypeDesc)(hc:w.cell? ⟨b,o,none⟩=some v)(hu:P.underlying ty=some d)(hd:d.isRow=false):(loadVar ty ⟨b,o,none⟩).run P w= .ok v w:=by
 have hagg:(isAgg ty).run P w= .ok false w:=by
  unfold isAgg
  rw[Sem.run_bind,run_underlying hu w]
  cases d<;>simp_all [TypeDesc.isRow]
 simp[loadVar,Sem.run_bind,hagg,hc]
theorem tV(w:World)(b o:Nat)(ty:TypeId)(u:Value)(vs:List Value)(hv:u.cells.toList=vs)(ht:w.there b o vs.length)(hi:(P.info? ty).map (·.size)=some vs.length)(h1:∀v∈vs,v.oneCell'=true):
 (storeVar ty ⟨b,o,none⟩ u).run P w= .ok () (w.setCells b o vs):=by
 have:=run_storeCells_cells (P:=P) b o vs 0 w (fun j hj=>by simpa using(ht j hj).1) (fun j hj=>by simpa using(ht j hj).2) h1
 cases hq:P.info? ty with
 |none=>simp[hq]at hi
 |some i=>
  have hs:u.cells.size=i.size:=by rw[←Array.length_toList,hv];simp[hq]at hi;omega
  simp only[Nat.add_zero]at this
  simp[storeVar,sizeOf,typeInfo,hq,hs,hv,this]
end
section
variable {P:Program} {ops:Array Oper} {rest:List Oper} {o:Oper} {a:Act} {Q:Exit→Act→World→Prop} {W:World}
theorem uX{ty:TypeId}{x:Operand}{b q:Nat}{v:Value}{d:TypeDesc}(hgd:o.guard=none)(ho:o.op= .load ty x)(hx:a.eval x= .pointer (some ⟨b,q,none⟩))(hc:W.cell? ⟨b,q,none⟩=some v)(hu:P.underlying ty=some d)(hd:d.isRow=false)
 (h:wpList P ops Q rest (a.put o.dst v) W):wpList P ops Q (o::rest) a W:=
 wpList_plain hgd fun K hK=>by
  unfold Oper.wp execOp
  simp only[ho,hx,Instr.loadAt,Instr.sureAddr,Sem.run_bind,Sem.run_pure,Result.andThen_ok,ni W b q ty v d hc hu hd]
  exact hK _ _ h
theorem oP{ty:TypeId}{x y:Operand}{b q:Nat}{u:Value}{vs:List Value}(hgd:o.guard=none)(hn:o.dst=none)(ho:o.op= .store ty x y)(hx:a.eval x= .pointer (some ⟨b,q,none⟩))(hy:a.eval y=u)(hv:u.cells.toList=vs)(ht:W.there b q vs.length)
 (hi:(P.info? ty).map (·.size)=some vs.length)(h1:∀v∈vs,v.oneCell'=true)(h:wpList P ops Q rest a (W.setCells b q vs)):wpList P ops Q (o::rest) a W:=
 wpList_plain hgd fun K hK=>by
  unfold Oper.wp execOp
  simp only[ho,hx,hy,Instr.storeAt,Instr.sureAddr,Sem.run_bind,Sem.run_pure,Result.andThen_ok,tV W b q ty u vs hv ht hi h1]
  show K (a.put o.dst undef) _
  rw[hn]
  exact hK _ _ h
variable {b:Nat} {X:Nat→Prop} {M0 M:Nat→Nat→Prop} {w0:World} {L:List qW} {G:lM}
theorem lbx{N:Tmp}{t:TypeId}(HW:ah (LW b X M0 w0 L G M W))(cs:List Value)(h:∀g w1,ah (LW b X M0 w0 (⟨g,cs,t⟩::L) G M w1)→wpList P ops Q rest (a.put o.dst (.pointer (some ⟨g,0,none⟩))) w1)
 (hd:o.dst=some N:=by rfl)(hgd:o.guard=none:=by rfl)(hT:t≠89:=by decide)
 (hr:(execOp a.eval o).run P W= .ok (.value (.pointer (some ⟨W.heap.size,0,none⟩))) (W.alloc (.cells cs.toArray t (0,0))):=by first|(go_simp;done)|(go_simp;rfl)):wpList P ops Q (o::rest) a W:=
 Gy hgd hd hr fun g hg w1 he hb=>h g w1 ⟨HW.out.push hg he hb hT⟩
theorem uN{ty:TypeId}{x:Operand}{d:TypeDesc}{g T:Nat}{c0:List Value}(HW:ah (LW b X M0 w0 L G M W))(i j:Nat)(cs:List Value)(hu:P.underlying ty=some d)(h:wpList P ops Q rest (a.put o.dst (.agg cs.toArray)) W)
 (ei:L[i]?=some ⟨g,c0,T⟩:=by rfl)(he:(c0.drop j).take cs.length=cs:=by rfl)(hg:o.guard=none:=by rfl)(ho:o.op= .load ty x:=by rfl)(hx:a.eval x= .pointer (some ⟨g,j,none⟩):=by rfl)(hd:d.isRow=true:=by rfl)(hi:(P.info? ty).map (·.size)=some cs.length:=by kernel_rfl):wpList P ops Q (o::rest) a W:=
 wpList_load_mid hg ty x ho g j hx cs d (fun q v hq=>by
  rw[au (HW.out.at i ei)]
  have:c0[j+q]?=some v:=by
   rw[←he,List.getElem?_take]at hq
   split at hq
   ·rwa[List.getElem?_drop]at hq
   ·cases hq
  simpa using this) hu hd hi h
theorem lls{ty:TypeId}{x:Operand}{d:TypeDesc}{g T:Nat}{c0:List Value}(HW:ah (LW b X M0 w0 L G M W))(i j:Nat)(v:Value)(hu:P.underlying ty=some d)(h:wpList P ops Q rest (a.put o.dst v) W)
 (ei:L[i]?=some ⟨g,c0,T⟩:=by rfl)(he:c0[j]?=some v:=by rfl)(hg:o.guard=none:=by rfl)(ho:o.op= .load ty x:=by rfl)(hx:a.eval x= .pointer (some ⟨g,j,none⟩):=by rfl)(hd:d.isRow=false:=by rfl):wpList P ops Q (o::rest) a W:=
 uX hg ho hx (by rw[au (HW.out.at i ei)];simpa using he) hu hd h
theorem LW.cell{g T:Nat}{c0:List Value}{v:Value}(HW:LW b X M0 w0 L G M W)(i j:Nat)(ei:L[i]?=some ⟨g,c0,T⟩:=by rfl)(he:c0[j]?=some v:=by rfl):W.cell? ⟨g,j,none⟩=some v:=by
 rw[au (HW.at i ei)];simpa using he
theorem mP{ty:TypeId}{x y:Operand}{g T:Nat}{c0:List Value}(HW:ah (LW b X M0 w0 L G M W))(i j:Nat)(u:Value)(c1:List Value)(vs:List Value)(h:∀w',ah (LW b X M0 w0 (L.set i ⟨g,c1,T⟩) G M w')→wpList P ops Q rest a w')(h1:∀v∈vs,v.oneCell'=true)
 (ei:L[i]?=some ⟨g,c0,T⟩:=by rfl)(he:c0.take j++vs++c0.drop (j+vs.length)=c1:=by rfl)(hl:decide (j+vs.length≤c0.length)=true:=by rfl)(hv:u.cells.toList=vs:=by rfl)(hg:o.guard=none:=by rfl)(hn:o.dst=none:=by rfl)(ho:o.op= .store ty x y:=by rfl)(hx:a.eval x= .pointer (some ⟨g,j,none⟩):=by rfl)(hy:a.eval y=u:=by rfl)(hi:(P.info? ty).map (·.size)=some vs.length:=by kernel_rfl):wpList P ops Q (o::rest) a W:=by
 have hb:=HW.out.at i ei
 have hl':=of_decide_eq_true hl
 refine oP hg hn ho hx hy hv (fun q hq=>⟨?_,ak hb _⟩) hi h1 (h _ ⟨HW.out.upd i ei (by rw[←he];exact uM vs j W c0 hb hl') (qR vs j W W (ay.refl W g none)) (sH vs j 0 W W (Below.refl _ _) (Nat.zero_le _))⟩)
 rw[au hb]
 simp only[List.getElem?_toArray]
 rw[List.getElem?_eq_getElem (by omega)]
 rfl
theorem wE{cs:Array Value}{i m:Nat}{es:List Value}(h:seg cs i m=es){q:Nat}{v:Value}(hq:es[q]?=some v):cs[i*m+q]?=some v:=by
 subst h
 unfold seg at hq
 rw[List.getElem?_take]at hq
 split at hq
 ·rw[List.getElem?_drop]at hq
  simpa using hq
 ·cases hq
theorem Y8{k i m T:Nat}{cs:Array Value}{es:List Value}(e:W.heap[k]?=some (.cells cs T (0,0)))(h:seg cs i m=es):W.rangeAt k (i*m) es:=fun q v hq=>by
 rw[au e];exact wE h hq
theorem LW.elem{T k n i:Nat}(HW:LW b X M0 w0 L G M W)(hM:M k n)(hT:∃cs,W.heap[k]?=some (.cells cs T (0,0)))(hi:i<n):∃cs es,W.heap[k]?=some (.cells cs T (0,0))∧seg cs i (wide T)=es∧Elem b W T es∧W.rangeAt k (i*wide T) es∧(i+1)*wide T≤cs.size:=by
 obtain⟨_,T',cs,e,ht,hs,he⟩:=HW.ts.tw k n hM
 obtain⟨cs',e'⟩:=hT
 have:T'=T:=by rw[e]at e';injection e' with e';injection e' with _ e'
 subst this
 exact⟨cs,_,e,rfl,he i hi,Y8 e rfl,Nat.le_trans (Nat.mul_le_mul_right _ hi) hs⟩
theorem Kw(c:List Value)(i m j:Nat)(vs:List Value)(hj:j+vs.length≤m)(hl:(i+1)*m≤c.length):seg (c.take (i*m+j)++vs++c.drop (i*m+j+vs.length)).toArray i m=((c.drop (i*m)).take m).take j++vs++((c.drop (i*m)).take m).drop (j+vs.length):=by
 have hm:(i+1)*m=i*m+m:=by rw[Nat.add_mul,Nat.one_mul]
 apply List.ext_getElem?
 intro q
 unfold seg
 simp only[List.getElem?_take,List.getElem?_drop,List.getElem?_append,List.length_append,List.length_take,List.length_drop,List.toList_toArray]
 by_cases h1:q<m
 ·simp only[h1,if_true]
  by_cases h2:q<j
  ·have e1:i*m+q<min (i*m+j) c.length+vs.length:=by omega
   have e2:i*m+q<min (i*m+j) c.length:=by omega
   have e3:q<min j (min m (c.length-i*m))+vs.length:=by omega
   have e4:q<min j (min m (c.length-i*m)):=by omega
   have e5:i*m+q<i*m+j:=by omega
   simp only[e1,e2,e3,e4,e5,h1,h2,if_true]
  ·by_cases h3:q<j+vs.length
   ·have e1:i*m+q<min (i*m+j) c.length+vs.length:=by omega
    have e2:¬i*m+q<min (i*m+j) c.length:=by omega
    have e3:q<min j (min m (c.length-i*m))+vs.length:=by omega
    have e4:¬q<min j (min m (c.length-i*m)):=by omega
    simp only[e1,e2,e3,e4,if_true,if_false]
    congr 1;omega
   ·have e1:¬i*m+q<min (i*m+j) c.length+vs.length:=by omega
    have e3:¬q<min j (min m (c.length-i*m))+vs.length:=by omega
    have e5:j+vs.length+(q-(min j (min m (c.length-i*m))+vs.length))<m:=by omega
    simp only[e1,e3,e5,if_true,if_false]
    congr 1;omega
 ·have e3:¬q<min j (min m (c.length-i*m))+vs.length:=by omega
  have e5:¬j+vs.length+(q-(min j (min m (c.length-i*m))+vs.length))<m:=by omega
  simp only[h1,e3,e5,if_false]
theorem Pv(c:List Value)(i i' m j:Nat)(vs:List Value)(hj:j+vs.length≤m)(hne:i'≠i)(hl:(i+1)*m≤c.length):seg (c.take (i*m+j)++vs++c.drop (i*m+j+vs.length)).toArray i' m=seg c.toArray i' m:=by
 have hm:(i+1)*m=i*m+m:=by rw[Nat.add_mul,Nat.one_mul]
 apply List.ext_getElem?
 intro q
 unfold seg
 simp only[List.getElem?_take,List.getElem?_drop,List.getElem?_append,List.length_append,List.length_take,List.toList_toArray]
 by_cases h1:q<m
 ·simp only[h1,if_true]
  rcases Nat.lt_or_gt_of_ne hne with h|h
  ·have:(i'+1)*m≤i*m:=Nat.mul_le_mul_right _ h
   rw[Nat.add_mul,Nat.one_mul]at this
   have e1:i'*m+q<min (i*m+j) c.length+vs.length:=by omega
   have e2:i'*m+q<min (i*m+j) c.length:=by omega
   have e3:i'*m+q<i*m+j:=by omega
   simp only[e1,e2,e3,if_true]
  ·have:(i+1)*m≤i'*m:=Nat.mul_le_mul_right _ h
   have e1:¬i'*m+q<min (i*m+j) c.length+vs.length:=by omega
   simp only[e1,if_false]
   congr 1;omega
 ·simp only[h1,if_false]
theorem LW.put{T k n i j:Nat}{es:List Value}{cs:Array Value}{vs es':List Value}(HW:LW b X M0 w0 L G M W)(hM:M k n)(hT:W.heap[k]?=some (.cells cs T (0,0)))(hi:i<n)(hs:seg cs i (wide T)=es)(hsz:(i+1)*wide T≤cs.size)
 (hj:j+vs.length≤wide T)(he':es.take j++vs++es.drop (j+vs.length)=es')(hE:Elem b W T es'):LW b X M0 w0 L G M (W.setCells k (i*wide T+j) vs):=by
 have hb:(W.setCells k (i*wide T+j) vs).heap[k]?=some (.cells (cs.toList.take (i*wide T+j)++vs++cs.toList.drop (i*wide T+j+vs.length)).toArray T (0,0)):=uM vs _ W cs.toList (by simpa using hT) (by rw[Nat.add_mul,Nat.one_mul]at hsz;simp only[Array.length_toList];omega)
 have hk:=qR vs (i*wide T+j) W W (ay.refl W k none)
 have h0:=sH (g:=k) vs (i*wide T+j) 0 W W (Below.refl _ _) (Nat.zero_le _)
 obtain⟨_,T',cs1,e1,ht,_⟩:=HW.ts.tw k n hM
 have hT':T'=T:=by rw[e1]at hT;injection hT with hT;injection hT with _ hT
 subst hT'
 have hst:uL W (W.setCells k (i*wide T'+j) vs):=fun q ci hc=>hk.2 q (fZ hc) (fun ei=>by subst ei;rw[hT]at hc;injection hc with hc;injection hc with _ hc;exact ht hc) (by simp)
 have hsz':(i+1)*wide T'≤cs.toList.length:=by simpa using hsz
 refine HW.call (TS.put (X:=fun _=>False) HW.ts.tw hM hT h0 hk hb (by simp only[List.size_toArray,a2a vs _ cs.toList (show i*wide T'+j+vs.length≤cs.toList.length by rw[Nat.add_mul,Nat.one_mul]at hsz';omega),Array.length_toList]) (fun m hm i' hi'=>?_))
 by_cases hii:i'=i
 ·subst hii
  rw[Kw cs.toList i' (wide T') j vs hj hsz']
  have:(cs.toList.drop (i'*wide T')).take (wide T')=es:=hs
  rw[this,he']
  exact hE.stay hst
 ·rw[Pv cs.toList i i' (wide T') j vs hj hii hsz']
  obtain⟨_,T2,cs2,e2,_,_,h2⟩:=HW.ts.tw k m hm
  have:cs2=cs∧T2=T':=by rw[hT]at e2;injection e2 with e2;injection e2 with e3 e4;exact⟨e3.symm,e4.symm⟩
  obtain⟨rfl,rfl⟩:=this
  simpa using(h2 i' hi').stay hst
end
end Go.Proofs.YtokblgdgpnakpaaGreat.PFnEndLess
