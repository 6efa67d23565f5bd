/- FnEndLess holds: part 7 of a proof that the given program meets it (printed texts and walks of our own, made short by a program). No condition. -/
import Derived.Test.YtokblgdgpnakpaaGreatQ06
set_option linter.unusedVariables false
set_option linter.unusedSimpArgs false
set_option maxHeartbeats 8000000
set_option maxRecDepth 100000
namespace Go.Proofs.YtokblgdgpnakpaaGreat.PFnEndLess
open Go.RowKit Go.Proofs.YtokblgdgpnakpaaGreatW.PrintWords Go.Proofs.YtokblgdgpnakpaaGreatW.PrintLast Go.Proofs.YtokblgdgpnakpaaGreatW.PrintMore Go.Proofs.YtokblgdgpnakpaaGreat.Lm
open Go.Proofs.YtokblgdgpnakpaaGreat.Pure
attribute [local go_sem] bF bD cZ d9 aY aX bH bI
theorem PL{b N g:Nat}{l:List Int}{wr w:World}{M:Nat→Nat→Prop}{v:Value}{x:Int}{x0:Bool}{v1:Value}{x2:Int}{v3:Value}{x4:Int}{x5:ByteArray}{v6:Value}{x7 x8:Int}{v9:Value}{x10:Bool}{y0:Bool}{u1:Value}{y2:Int}{u3:Value}{y4:Int}{y5:ByteArray}{u6:Value}{y7 y8:Int}{u9:Value}{xD:Bool}{su sd:ByteArray}(hw:TW b M w)(hb0:b≤w.heap.size)(hR:RB b wr g l)(hB0:Below wr.heap.size wr w)(hg:w.heap[g]?=some (.cells (rC v x).toArray 75 (0,0)))(hn:∀n,¬M g n)(hv:RV wr l v)(h0:0≤x)(h1:x≤900000)(E:ET b M w N 700 v1 x2 v3 x4 x5 v6 v9)(F:ET b M w N 700 u1 y2 u3 y4 y5 u6 u9)(hN:N≤1000000):Calls Tryz.prog 68 #[.pointer (some ⟨g,0,none⟩),.agg (wC x0 v1 x2 v3 x4 x5 v6 x7 x8 v9 x10 y0 u1 y2 u3 y4 y5 u6 y7 y8 u9 xD su sd).toArray] w (a2i b wr g l (x+60) M w):=by
 obtain⟨A1,n1,c1,A3,n3,c3,A6,n6,c6,A9,n9,c9,rfl,rfl,rfl,rfl,Qg,Qh⟩:=E.form4
 obtain⟨B1,m1,k1,B3,m3,k3,B6,m6,k6,B9,m9,k9,rfl,rfl,rfl,rfl,hm6,hm9⟩:=F.form4
 have jr:=ah.mk hw
 have HW:ah (LW b (RX g) M w [⟨g,rC v x,75⟩] (xw b N 700 (.slice A1 n1 c1) x2 (.slice A3 n3 c3) x4 x5 (.slice A6 n6 c6) (.slice A9 n9 c9)) M w):=⟨LW.startR hw hg hn E (Mon.et _ _ _ _ _ _ _ _ _)⟩
 replace HW:=ah.mk (LW.fact (H:=xw b N 700 (.slice B1 m1 k1) y2 (.slice B3 m3 k3) y4 y5 (.slice B6 m6 k6) (.slice B9 m9 k9)) HW.out F (Mon.et _ _ _ _ _ _ _ _ _))
 clear hw hg E F
 go_enter Tryz.func68,Tryz.ntmps68
 go_upto_if 8 with(first|((with_reducible refine gd 3 rfl ?_);refine lbx (N:=3) (t:=47) HW (wC x0 (.slice A1 n1 c1) x2 (.slice A3 n3 c3) x4 x5 (.slice A6 n6 c6) x7 x8 (.slice A9 n9 c9) x10 y0 (.slice B1 m1 k1) y2 (.slice B3 m3 k3) y4 y5 (.slice B6 m6 k6) y7 y8 (.slice B9 m9 k9) xD su sd) ?_;clear HW;intro g3 pF HW)|((with_reducible refine gd 4 rfl ?_);refine lbx (N:=4) (t:=99) HW (vC 0 0 0 (⟨#[]⟩:ByteArray) (⟨#[]⟩:ByteArray)) ?_;clear HW;intro g4 xG HW)|((with_reducible refine gq 22 rfl ?_);refine gl (some 7) Tryz.func22 #[(.pointer (some ⟨g,0,none⟩)),(.int .i64 12)] ?_;with_reducible refine(gK 12 hR (HW.out.under hR hB0 jr.out) (HW.out.at 2 rfl) hv h0 (by omega) (by omega)).mono ?_;rintro e Ca ⟨mQ,agB,agC,rfl,RZ,S9,dK⟩;refine⟨_,rfl,?_⟩;have oU:=dK.rv;have oV:=dK.x0;have a9A:=dK.x1;replace HW:=ah.mk (HW.out.rd 2 dK rfl);(try simp only[List.set_cons_zero,List.set_cons_succ]at HW);clear dK;have agD:=eq_true RZ;have agE:=eq_true S9))
 by_cases c105:mQ=0
 ·skip
  subst c105
  go_wp2_with (first|((with_reducible refine gq 69 rfl ?_);refine gl (some 12) Tryz.func69 #[(.pointer (some ⟨g,0,none⟩))] ?_;with_reducible refine(KF hR (HW.out.under hR hB0 jr.out) (HW.out.at 2 rfl) oU oV (by omega)).mono ?_;rintro e vZ ⟨ad9,Sb,Sc,rfl,agF,dK⟩;refine⟨_,rfl,?_⟩;have mK:=dK.rv;have mM:=dK.x0;have KL:=dK.x1;replace HW:=ah.mk (HW.out.rd 2 dK rfl);(try simp only[List.set_cons_zero,List.set_cons_succ]at HW);clear dK)|((with_reducible refine gq 70 rfl ?_);refine gl (some 14) Tryz.func70 #[(.pointer (some ⟨g,0,none⟩))] ?_;with_reducible refine(KG hR (HW.out.under hR hB0 jr.out) (HW.out.at 2 rfl) mK mM (by omega)).mono ?_;rintro e AQ ⟨aND,agG,agH,rfl,aE2,dK⟩;refine⟨_,rfl,?_⟩;have KM:=dK.rv;have KN:=dK.x0;have a9B:=dK.x1;replace HW:=ah.mk (HW.out.rd 2 dK rfl);(try simp only[List.set_cons_zero,List.set_cons_succ]at HW);clear dK)|((with_reducible refine aj (t:=99) (p:=4) rfl ?_);refine iA HW 0 ?_;clear HW;intro Fz HW;(try simp only[List.set_cons_zero,List.set_cons_succ]at HW)))
  refine bodyPost_ret (results_cell_row rfl _ _ g4 99 (vC _ _ _ _ _).toArray (0,0) _ rfl (HW.out.at 0 rfl) Tryz.underlying99 rfl (by kernel_rfl)) rfl ?_
  exact⟨_,_,_,_,rfl,⟨HW.out.ts,HW.out.at 2 rfl,KM,KN,by omega⟩,⟨_,_,_,_,_,rfl,(by omega),(by omega)⟩⟩
 ·skip
  have Iq:(mQ==0)=false:=beq_eq_false_iff_ne.mpr c105
  have ad8:(mQ != 0)=true:=bne_iff_ne.mpr c105
  go_upto_if 8 with(fail)
  by_cases Ce:mQ=1
  ·skip
   subst Ce
   go_wp2_with (first|((with_reducible refine gq 69 rfl ?_);refine gl (some 12) Tryz.func69 #[(.pointer (some ⟨g,0,none⟩))] ?_;with_reducible refine(KF hR (HW.out.under hR hB0 jr.out) (HW.out.at 2 rfl) oU oV (by omega)).mono ?_;rintro e AV ⟨aNE,aE3,aE4,rfl,aE5,dK⟩;refine⟨_,rfl,?_⟩;have a9C:=dK.rv;have a9D:=dK.x0;have az2:=dK.x1;replace HW:=ah.mk (HW.out.rd 2 dK rfl);(try simp only[List.set_cons_zero,List.set_cons_succ]at HW);clear dK)|((with_reducible refine gq 70 rfl ?_);refine gl (some 14) Tryz.func70 #[(.pointer (some ⟨g,0,none⟩))] ?_;with_reducible refine(KG hR (HW.out.under hR hB0 jr.out) (HW.out.at 2 rfl) a9C a9D (by omega)).mono ?_;rintro e KO ⟨aNF,aE6,aE7,rfl,aE8,dK⟩;refine⟨_,rfl,?_⟩;have a9E:=dK.rv;have a9F:=dK.x0;have az3:=dK.x1;replace HW:=ah.mk (HW.out.rd 2 dK rfl);(try simp only[List.set_cons_zero,List.set_cons_succ]at HW);clear dK)|((with_reducible refine aj (t:=99) (p:=4) rfl ?_);refine iA HW 0 ?_;clear HW;intro yO HW;(try simp only[List.set_cons_zero,List.set_cons_succ]at HW)))
   refine bodyPost_ret (results_cell_row rfl _ _ g4 99 (vC _ _ _ _ _).toArray (0,0) _ rfl (HW.out.at 0 rfl) Tryz.underlying99 rfl (by kernel_rfl)) rfl ?_
   exact⟨_,_,_,_,rfl,⟨HW.out.ts,HW.out.at 2 rfl,a9E,a9F,by omega⟩,⟨_,_,_,_,_,rfl,(by omega),(by omega)⟩⟩
  ·skip
   have PG:(mQ==1)=false:=beq_eq_false_iff_ne.mpr Ce
   have apk:(mQ != 1)=true:=bne_iff_ne.mpr Ce
   go_upto_if 16 with(fail)
   by_cases c117:mQ=2
   ·skip
    subst c117
    go_upto_if 20 with(first|((with_reducible refine gq 22 rfl ?_);refine gl (some 19) Tryz.func22 #[(.pointer (some ⟨g,0,none⟩)),(.int .i64 2)] ?_;with_reducible refine(gK 2 hR (HW.out.under hR hB0 jr.out) (HW.out.at 2 rfl) oU oV (by omega) (by omega)).mono ?_;rintro e xI ⟨a2s,agI,agJ,rfl,agK,agL,dK⟩;refine⟨_,rfl,?_⟩;have DZ:=dK.rv;have E5:=dK.x0;have a9G:=dK.x1;replace HW:=ah.mk (HW.out.rd 2 dK rfl);(try simp only[List.set_cons_zero,List.set_cons_succ]at HW);clear dK;have aE9:=eq_true agK;have aEa:=eq_true agL))
    by_cases xJ:a2s=0
    ·skip
     subst xJ
     go_wp2_with (first|((with_reducible refine gd 24 rfl ?_);refine lls HW 1 6 (.slice A6 n6 c6) Tryz.underlying26 ?_)|((with_reducible refine gd 26 rfl ?_);refine aDH _ _ ?_;intro a2t az4 az5 az6)|((with_reducible refine gq 22 rfl ?_);refine gl (some 27) Tryz.func22 #[(.pointer (some ⟨g,0,none⟩)),(.int .i64 a2t)] ?_;with_reducible refine(gK a2t hR (HW.out.under hR hB0 jr.out) (HW.out.at 2 rfl) DZ E5 (by omega) (by omega)).mono ?_;rintro e Gu ⟨aNG,aEb,aEc,rfl,agM,agN,dK⟩;refine⟨_,rfl,?_⟩;have a9H:=dK.rv;have a9I:=dK.x0;have az7:=dK.x1;replace HW:=ah.mk (HW.out.rd 2 dK rfl);(try simp only[List.set_cons_zero,List.set_cons_succ]at HW);clear dK;have aEd:=eq_true agM;have aEe:=eq_true agN)|((with_reducible refine aj (t:=99) (p:=4) rfl ?_);refine iA HW 0 ?_;clear HW;intro Fv HW;(try simp only[List.set_cons_zero,List.set_cons_succ]at HW)))
     refine bodyPost_ret (results_cell_row rfl _ _ g4 99 (vC _ _ _ _ _).toArray (0,0) _ rfl (HW.out.at 0 rfl) Tryz.underlying99 rfl (by kernel_rfl)) rfl ?_
     exact⟨_,_,_,_,rfl,⟨HW.out.ts,HW.out.at 2 rfl,a9H,a9I,by omega⟩,⟨_,_,_,_,_,rfl,(by decide),(by decide)⟩⟩
    ·skip
     have a2u:(a2s==0)=false:=beq_eq_false_iff_ne.mpr xJ
     have a2v:(a2s != 0)=true:=bne_iff_ne.mpr xJ
     go_upto_if 44 with(first|((with_reducible refine gq 22 rfl ?_);refine gl (some 40) Tryz.func22 #[(.pointer (some ⟨g,0,none⟩)),(.int .i64 2)] ?_;with_reducible refine(gK 2 hR (HW.out.under hR hB0 jr.out) (HW.out.at 2 rfl) DZ E5 (by omega) (by omega)).mono ?_;rintro e KJ ⟨aNH,aEf,aEg,rfl,agO,agP,dK⟩;refine⟨_,rfl,?_⟩;have E8:=dK.rv;have E9:=dK.x0;have az8:=dK.x1;replace HW:=ah.mk (HW.out.rd 2 dK rfl);(try simp only[List.set_cons_zero,List.set_cons_succ]at HW);clear dK;have aEh:=eq_true agO;have aEi:=eq_true agP)|((with_reducible refine gd 42 rfl ?_);refine lls HW 1 22 (.string su) Tryz.underlying9 ?_))
     by_cases c127:(su.size:Int)=0
     ·skip
      have a2w:((su.size:Int)==0)=true:=beq_iff_eq.mpr c127
      have apl:((su.size:Int) != 0)=false:=bne_eq_false_iff_eq.mpr c127
      have aNI:=ah.mk c127
      clear c127
      go_upto_if 48 with(first|((with_reducible refine gd 46 rfl ?_);refine lls HW 1 23 (.string sd) Tryz.underlying9 ?_))
      by_cases xK:(sd.size:Int)=0
      ·skip
       have PN:((sd.size:Int)==0)=true:=beq_iff_eq.mpr xK
       have a2x:((sd.size:Int) != 0)=false:=bne_eq_false_iff_eq.mpr xK
       have apm:=ah.mk xK
       clear xK
       go_wp2_with (first|((with_reducible refine gd 50 rfl ?_);refine Y9 (N:=50) (t:=3) (m:=7) HW [(.int .i64 1),(.int .i64 3),(.int .i64 7),(.int .i64 20),(.int .i64 45),(.int .i64 90),(.int .i64 90)] ?_;clear HW;intro g50 Sd HW)|((with_reducible refine gq 22 rfl ?_);refine gl (some 52) Tryz.func22 #[(.pointer (some ⟨g,0,none⟩)),(.int .i64 7)] ?_;with_reducible refine(gK 7 hR (HW.out.under hR hB0 jr.out) (HW.out.at 3 rfl) E8 E9 (by omega) (by omega)).mono ?_;rintro e PO ⟨wm,agR,agS,rfl,Sg,Si,dK⟩;refine⟨_,rfl,?_⟩;have xB:=dK.rv;have xC:=dK.x0;have a9J:=dK.x1;replace HW:=ah.mk (HW.out.rd 3 dK rfl);(try simp only[List.set_cons_zero,List.set_cons_succ]at HW);clear dK;have agT:=eq_true Sg;have agU:=eq_true Si)|((with_reducible refine gd 54 rfl ?_);refine lli HW 0 wm 7 (by omega) (by omega) Tryz.underlying3 ?_;intro a7K)|((with_reducible refine aj (t:=99) (p:=4) rfl ?_);refine iA HW 1 ?_;clear HW;intro a2y HW;(try simp only[List.set_cons_zero,List.set_cons_succ]at HW)))
       refine bodyPost_ret (results_cell_row rfl _ _ g4 99 (vC _ _ _ _ _).toArray (0,0) _ rfl (HW.out.at 1 rfl) Tryz.underlying99 rfl (by kernel_rfl)) rfl ?_
       exact⟨_,_,_,_,rfl,⟨HW.out.ts,HW.out.at 3 rfl,xB,xC,by omega⟩,⟨_,_,_,_,_,rfl,(by decide),(by decide)⟩⟩
      ·skip
       have PN:((sd.size:Int)==0)=false:=beq_eq_false_iff_ne.mpr xK
       have a2x:((sd.size:Int) != 0)=true:=bne_iff_ne.mpr xK
       go_wp2_with (first|((with_reducible refine gd 50 rfl ?_);refine Y9 (N:=50) (t:=3) (m:=7) HW [(.int .i64 1),(.int .i64 3),(.int .i64 7),(.int .i64 20),(.int .i64 45),(.int .i64 90),(.int .i64 90)] ?_;clear HW;intro g50 a2z HW)|((with_reducible refine gq 22 rfl ?_);refine gl (some 52) Tryz.func22 #[(.pointer (some ⟨g,0,none⟩)),(.int .i64 7)] ?_;with_reducible refine(gK 7 hR (HW.out.under hR hB0 jr.out) (HW.out.at 3 rfl) E8 E9 (by omega) (by omega)).mono ?_;rintro e a2A ⟨apn,aEj,aEk,rfl,agV,agW,dK⟩;refine⟨_,rfl,?_⟩;have a9K:=dK.rv;have a9L:=dK.x0;have az9:=dK.x1;replace HW:=ah.mk (HW.out.rd 3 dK rfl);(try simp only[List.set_cons_zero,List.set_cons_succ]at HW);clear dK;have aEl:=eq_true agV;have aEm:=eq_true agW)|((with_reducible refine gd 54 rfl ?_);refine lli HW 0 apn 7 (by omega) (by omega) Tryz.underlying3 ?_;intro aS6)|((with_reducible refine aj (t:=99) (p:=4) rfl ?_);refine iA HW 1 ?_;clear HW;intro aEn HW;(try simp only[List.set_cons_zero,List.set_cons_succ]at HW)))
       refine bodyPost_ret (results_cell_row rfl _ _ g4 99 (vC _ _ _ _ _).toArray (0,0) _ rfl (HW.out.at 1 rfl) Tryz.underlying99 rfl (by kernel_rfl)) rfl ?_
       exact⟨_,_,_,_,rfl,⟨HW.out.ts,HW.out.at 3 rfl,a9K,a9L,by omega⟩,⟨_,_,_,_,_,rfl,(by decide),(by decide)⟩⟩
     ·skip
      have a2w:((su.size:Int)==0)=false:=beq_eq_false_iff_ne.mpr c127
      have apl:((su.size:Int) != 0)=true:=bne_iff_ne.mpr c127
      go_upto_if 48 with(first|((with_reducible refine gd 46 rfl ?_);refine lls HW 1 23 (.string sd) Tryz.underlying9 ?_))
      by_cases c139:(sd.size:Int)=0
      ·skip
       have a2B:((sd.size:Int)==0)=true:=beq_iff_eq.mpr c139
       have apo:((sd.size:Int) != 0)=false:=bne_eq_false_iff_eq.mpr c139
       have aNJ:=ah.mk c139
       clear c139
       go_wp2_with (first|((with_reducible refine gd 50 rfl ?_);refine Y9 (N:=50) (t:=3) (m:=7) HW [(.int .i64 1),(.int .i64 3),(.int .i64 7),(.int .i64 20),(.int .i64 45),(.int .i64 90),(.int .i64 90)] ?_;clear HW;intro g50 agX HW)|((with_reducible refine gq 22 rfl ?_);refine gl (some 52) Tryz.func22 #[(.pointer (some ⟨g,0,none⟩)),(.int .i64 7)] ?_;with_reducible refine(gK 7 hR (HW.out.under hR hB0 jr.out) (HW.out.at 3 rfl) E8 E9 (by omega) (by omega)).mono ?_;rintro e a9M ⟨apq,aEo,aEp,rfl,agY,agZ,dK⟩;refine⟨_,rfl,?_⟩;have a9N:=dK.rv;have a9O:=dK.x0;have aza:=dK.x1;replace HW:=ah.mk (HW.out.rd 3 dK rfl);(try simp only[List.set_cons_zero,List.set_cons_succ]at HW);clear dK;have aEq:=eq_true agY;have aEr:=eq_true agZ)|((with_reducible refine gd 54 rfl ?_);refine lli HW 0 apq 7 (by omega) (by omega) Tryz.underlying3 ?_;intro aS7)|((with_reducible refine aj (t:=99) (p:=4) rfl ?_);refine iA HW 1 ?_;clear HW;intro a9P HW;(try simp only[List.set_cons_zero,List.set_cons_succ]at HW)))
       refine bodyPost_ret (results_cell_row rfl _ _ g4 99 (vC _ _ _ _ _).toArray (0,0) _ rfl (HW.out.at 1 rfl) Tryz.underlying99 rfl (by kernel_rfl)) rfl ?_
       exact⟨_,_,_,_,rfl,⟨HW.out.ts,HW.out.at 3 rfl,a9N,a9O,by omega⟩,⟨_,_,_,_,_,rfl,(by decide),(by decide)⟩⟩
      ·skip
       have a2B:((sd.size:Int)==0)=false:=beq_eq_false_iff_ne.mpr c139
       have apo:((sd.size:Int) != 0)=true:=bne_iff_ne.mpr c139
       go_wp2_with (first|((with_reducible refine gd 50 rfl ?_);refine Y9 (N:=50) (t:=3) (m:=7) HW [(.int .i64 1),(.int .i64 3),(.int .i64 7),(.int .i64 20),(.int .i64 45),(.int .i64 90),(.int .i64 90)] ?_;clear HW;intro g50 apr HW)|((with_reducible refine gq 22 rfl ?_);refine gl (some 52) Tryz.func22 #[(.pointer (some ⟨g,0,none⟩)),(.int .i64 7)] ?_;with_reducible refine(gK 7 hR (HW.out.under hR hB0 jr.out) (HW.out.at 3 rfl) E8 E9 (by omega) (by omega)).mono ?_;rintro e ah0 ⟨aps,aEs,aEt,rfl,ah1,ah2,dK⟩;refine⟨_,rfl,?_⟩;have a9Q:=dK.rv;have a9R:=dK.x0;have azb:=dK.x1;replace HW:=ah.mk (HW.out.rd 3 dK rfl);(try simp only[List.set_cons_zero,List.set_cons_succ]at HW);clear dK;have aEu:=eq_true ah1;have aEv:=eq_true ah2)|((with_reducible refine gd 54 rfl ?_);refine lli HW 0 aps 7 (by omega) (by omega) Tryz.underlying3 ?_;intro aS8)|((with_reducible refine aj (t:=99) (p:=4) rfl ?_);refine iA HW 1 ?_;clear HW;intro a2C HW;(try simp only[List.set_cons_zero,List.set_cons_succ]at HW)))
       refine bodyPost_ret (results_cell_row rfl _ _ g4 99 (vC _ _ _ _ _).toArray (0,0) _ rfl (HW.out.at 1 rfl) Tryz.underlying99 rfl (by kernel_rfl)) rfl ?_
       exact⟨_,_,_,_,rfl,⟨HW.out.ts,HW.out.at 3 rfl,a9Q,a9R,by omega⟩,⟨_,_,_,_,_,rfl,(by decide),(by decide)⟩⟩
   ·skip
    have aNK:(mQ==2)=false:=beq_eq_false_iff_ne.mpr c117
    have aNL:(mQ != 2)=true:=bne_iff_ne.mpr c117
    go_upto_if 31 with(fail)
    by_cases ah3:mQ=3
    ·skip
     subst ah3
     go_wp2_with (first|((with_reducible refine aj (t:=99) (p:=4) rfl ?_);refine iA HW 0 ?_;clear HW;intro a2D HW;(try simp only[List.set_cons_zero,List.set_cons_succ]at HW)))
     refine bodyPost_ret (results_cell_row rfl _ _ g4 99 (vC _ _ _ _ _).toArray (0,0) _ rfl (HW.out.at 0 rfl) Tryz.underlying99 rfl (by kernel_rfl)) rfl ?_
     exact⟨_,_,_,_,rfl,⟨HW.out.ts,HW.out.at 2 rfl,oU,oV,by omega⟩,⟨_,_,_,_,_,rfl,(by decide),(by decide)⟩⟩
    ·skip
     have aNM:(mQ==3)=false:=beq_eq_false_iff_ne.mpr ah3
     have aNN:(mQ != 3)=true:=bne_iff_ne.mpr ah3
     go_upto_if 31 with(fail)
     by_cases c152:mQ=4
     ·skip
      subst c152
      go_wp2_with (first|((with_reducible refine aj (t:=99) (p:=4) rfl ?_);refine iA HW 0 ?_;clear HW;intro a9S HW;(try simp only[List.set_cons_zero,List.set_cons_succ]at HW)))
      refine bodyPost_ret (results_cell_row rfl _ _ g4 99 (vC _ _ _ _ _).toArray (0,0) _ rfl (HW.out.at 0 rfl) Tryz.underlying99 rfl (by kernel_rfl)) rfl ?_
      exact⟨_,_,_,_,rfl,⟨HW.out.ts,HW.out.at 2 rfl,oU,oV,by omega⟩,⟨_,_,_,_,_,rfl,(by decide),(by decide)⟩⟩
     ·skip
      have aNO:(mQ==4)=false:=beq_eq_false_iff_ne.mpr c152
      have aNP:(mQ != 4)=true:=bne_iff_ne.mpr c152
      go_upto_if 35 with(fail)
      by_cases c154:mQ=5
      ·skip
       subst c154
       go_wp2_with (first|((with_reducible refine aj (t:=99) (p:=4) rfl ?_);refine iA HW 0 ?_;clear HW;intro ah4 HW;(try simp only[List.set_cons_zero,List.set_cons_succ]at HW)))
       refine bodyPost_ret (results_cell_row rfl _ _ g4 99 (vC _ _ _ _ _).toArray (0,0) _ rfl (HW.out.at 0 rfl) Tryz.underlying99 rfl (by kernel_rfl)) rfl ?_
       exact⟨_,_,_,_,rfl,⟨HW.out.ts,HW.out.at 2 rfl,oU,oV,by omega⟩,⟨_,_,_,_,_,rfl,(by decide),(by decide)⟩⟩
      ·skip
       have aNQ:(mQ==5)=false:=beq_eq_false_iff_ne.mpr c154
       have aNR:(mQ != 5)=true:=bne_iff_ne.mpr c154
       go_upto_if 35 with(fail)
       by_cases c156:mQ=6
       ·skip
        subst c156
        go_wp2_with (first|((with_reducible refine aj (t:=99) (p:=4) rfl ?_);refine iA HW 0 ?_;clear HW;intro apt HW;(try simp only[List.set_cons_zero,List.set_cons_succ]at HW)))
        refine bodyPost_ret (results_cell_row rfl _ _ g4 99 (vC _ _ _ _ _).toArray (0,0) _ rfl (HW.out.at 0 rfl) Tryz.underlying99 rfl (by kernel_rfl)) rfl ?_
        exact⟨_,_,_,_,rfl,⟨HW.out.ts,HW.out.at 2 rfl,oU,oV,by omega⟩,⟨_,_,_,_,_,rfl,(by decide),(by decide)⟩⟩
       ·skip
        have aNS:(mQ==6)=false:=beq_eq_false_iff_ne.mpr c156
        have aNT:(mQ != 6)=true:=bne_iff_ne.mpr c156
        go_upto_if 44 with(first|((with_reducible refine gq 22 rfl ?_);refine gl (some 40) Tryz.func22 #[(.pointer (some ⟨g,0,none⟩)),(.int .i64 2)] ?_;with_reducible refine(gK 2 hR (HW.out.under hR hB0 jr.out) (HW.out.at 2 rfl) oU oV (by omega) (by omega)).mono ?_;rintro e apu ⟨aNU,aEw,aEx,rfl,ah5,ah6,dK⟩;refine⟨_,rfl,?_⟩;have Ea:=dK.rv;have Eb:=dK.x0;have azc:=dK.x1;replace HW:=ah.mk (HW.out.rd 2 dK rfl);(try simp only[List.set_cons_zero,List.set_cons_succ]at HW);clear dK;have aEy:=eq_true ah5;have aEz:=eq_true ah6)|((with_reducible refine gd 42 rfl ?_);refine lls HW 1 22 (.string su) Tryz.underlying9 ?_))
        by_cases c160:(su.size:Int)=0
        ·skip
         have apv:((su.size:Int)==0)=true:=beq_iff_eq.mpr c160
         have apw:((su.size:Int) != 0)=false:=bne_eq_false_iff_eq.mpr c160
         have aNV:=ah.mk c160
         clear c160
         go_upto_if 48 with(first|((with_reducible refine gd 46 rfl ?_);refine lls HW 1 23 (.string sd) Tryz.underlying9 ?_))
         by_cases Ye:(sd.size:Int)=0
         ·skip
          have apx:((sd.size:Int)==0)=true:=beq_iff_eq.mpr Ye
          have apy:((sd.size:Int) != 0)=false:=bne_eq_false_iff_eq.mpr Ye
          have aNW:=ah.mk Ye
          clear Ye
          go_wp2_with (first|((with_reducible refine gd 50 rfl ?_);refine Y9 (N:=50) (t:=3) (m:=7) HW [(.int .i64 1),(.int .i64 3),(.int .i64 7),(.int .i64 20),(.int .i64 45),(.int .i64 90),(.int .i64 90)] ?_;clear HW;intro g50 aEA HW)|((with_reducible refine gq 22 rfl ?_);refine gl (some 52) Tryz.func22 #[(.pointer (some ⟨g,0,none⟩)),(.int .i64 7)] ?_;with_reducible refine(gK 7 hR (HW.out.under hR hB0 jr.out) (HW.out.at 3 rfl) Ea Eb (by omega) (by omega)).mono ?_;rintro e aEB ⟨apz,aEC,aED,rfl,ah7,ah8,dK⟩;refine⟨_,rfl,?_⟩;have a9T:=dK.rv;have a9U:=dK.x0;have azd:=dK.x1;replace HW:=ah.mk (HW.out.rd 3 dK rfl);(try simp only[List.set_cons_zero,List.set_cons_succ]at HW);clear dK;have aEE:=eq_true ah7;have aEF:=eq_true ah8)|((with_reducible refine gd 54 rfl ?_);refine lli HW 0 apz 7 (by omega) (by omega) Tryz.underlying3 ?_;intro aS9)|((with_reducible refine aj (t:=99) (p:=4) rfl ?_);refine iA HW 1 ?_;clear HW;intro aSa HW;(try simp only[List.set_cons_zero,List.set_cons_succ]at HW)))
          refine bodyPost_ret (results_cell_row rfl _ _ g4 99 (vC _ _ _ _ _).toArray (0,0) _ rfl (HW.out.at 1 rfl) Tryz.underlying99 rfl (by kernel_rfl)) rfl ?_
          exact⟨_,_,_,_,rfl,⟨HW.out.ts,HW.out.at 3 rfl,a9T,a9U,by omega⟩,⟨_,_,_,_,_,rfl,(by decide),(by decide)⟩⟩
         ·skip
          have apx:((sd.size:Int)==0)=false:=beq_eq_false_iff_ne.mpr Ye
          have apy:((sd.size:Int) != 0)=true:=bne_iff_ne.mpr Ye
          go_wp2_with (first|((with_reducible refine gd 50 rfl ?_);refine Y9 (N:=50) (t:=3) (m:=7) HW [(.int .i64 1),(.int .i64 3),(.int .i64 7),(.int .i64 20),(.int .i64 45),(.int .i64 90),(.int .i64 90)] ?_;clear HW;intro g50 aSb HW)|((with_reducible refine gq 22 rfl ?_);refine gl (some 52) Tryz.func22 #[(.pointer (some ⟨g,0,none⟩)),(.int .i64 7)] ?_;with_reducible refine(gK 7 hR (HW.out.under hR hB0 jr.out) (HW.out.at 3 rfl) Ea Eb (by omega) (by omega)).mono ?_;rintro e aSc ⟨apA,aEG,aEH,rfl,ah9,aha,dK⟩;refine⟨_,rfl,?_⟩;have a9V:=dK.rv;have a9W:=dK.x0;have aze:=dK.x1;replace HW:=ah.mk (HW.out.rd 3 dK rfl);(try simp only[List.set_cons_zero,List.set_cons_succ]at HW);clear dK;have aEI:=eq_true ah9;have aEJ:=eq_true aha)|((with_reducible refine gd 54 rfl ?_);refine lli HW 0 apA 7 (by omega) (by omega) Tryz.underlying3 ?_;intro aSd)|((with_reducible refine aj (t:=99) (p:=4) rfl ?_);refine iA HW 1 ?_;clear HW;intro aSe HW;(try simp only[List.set_cons_zero,List.set_cons_succ]at HW)))
          refine bodyPost_ret (results_cell_row rfl _ _ g4 99 (vC _ _ _ _ _).toArray (0,0) _ rfl (HW.out.at 1 rfl) Tryz.underlying99 rfl (by kernel_rfl)) rfl ?_
          exact⟨_,_,_,_,rfl,⟨HW.out.ts,HW.out.at 3 rfl,a9V,a9W,by omega⟩,⟨_,_,_,_,_,rfl,(by decide),(by decide)⟩⟩
        ·skip
         have apv:((su.size:Int)==0)=false:=beq_eq_false_iff_ne.mpr c160
         have apw:((su.size:Int) != 0)=true:=bne_iff_ne.mpr c160
         go_upto_if 48 with(first|((with_reducible refine gd 46 rfl ?_);refine lls HW 1 23 (.string sd) Tryz.underlying9 ?_))
         by_cases Yf:(sd.size:Int)=0
         ·skip
          have apB:((sd.size:Int)==0)=true:=beq_iff_eq.mpr Yf
          have apC:((sd.size:Int) != 0)=false:=bne_eq_false_iff_eq.mpr Yf
          have aNX:=ah.mk Yf
          clear Yf
          go_wp2_with (first|((with_reducible refine gd 50 rfl ?_);refine Y9 (N:=50) (t:=3) (m:=7) HW [(.int .i64 1),(.int .i64 3),(.int .i64 7),(.int .i64 20),(.int .i64 45),(.int .i64 90),(.int .i64 90)] ?_;clear HW;intro g50 aSf HW)|((with_reducible refine gq 22 rfl ?_);refine gl (some 52) Tryz.func22 #[(.pointer (some ⟨g,0,none⟩)),(.int .i64 7)] ?_;with_reducible refine(gK 7 hR (HW.out.under hR hB0 jr.out) (HW.out.at 3 rfl) Ea Eb (by omega) (by omega)).mono ?_;rintro e aSg ⟨apD,aEK,aEL,rfl,ahb,ahc,dK⟩;refine⟨_,rfl,?_⟩;have a9X:=dK.rv;have a9Y:=dK.x0;have azf:=dK.x1;replace HW:=ah.mk (HW.out.rd 3 dK rfl);(try simp only[List.set_cons_zero,List.set_cons_succ]at HW);clear dK;have aEM:=eq_true ahb;have aEN:=eq_true ahc)|((with_reducible refine gd 54 rfl ?_);refine lli HW 0 apD 7 (by omega) (by omega) Tryz.underlying3 ?_;intro aSh)|((with_reducible refine aj (t:=99) (p:=4) rfl ?_);refine iA HW 1 ?_;clear HW;intro aSi HW;(try simp only[List.set_cons_zero,List.set_cons_succ]at HW)))
          refine bodyPost_ret (results_cell_row rfl _ _ g4 99 (vC _ _ _ _ _).toArray (0,0) _ rfl (HW.out.at 1 rfl) Tryz.underlying99 rfl (by kernel_rfl)) rfl ?_
          exact⟨_,_,_,_,rfl,⟨HW.out.ts,HW.out.at 3 rfl,a9X,a9Y,by omega⟩,⟨_,_,_,_,_,rfl,(by decide),(by decide)⟩⟩
         ·skip
          have apB:((sd.size:Int)==0)=false:=beq_eq_false_iff_ne.mpr Yf
          have apC:((sd.size:Int) != 0)=true:=bne_iff_ne.mpr Yf
          go_wp2_with (first|((with_reducible refine gd 50 rfl ?_);refine Y9 (N:=50) (t:=3) (m:=7) HW [(.int .i64 1),(.int .i64 3),(.int .i64 7),(.int .i64 20),(.int .i64 45),(.int .i64 90),(.int .i64 90)] ?_;clear HW;intro g50 aSj HW)|((with_reducible refine gq 22 rfl ?_);refine gl (some 52) Tryz.func22 #[(.pointer (some ⟨g,0,none⟩)),(.int .i64 7)] ?_;with_reducible refine(gK 7 hR (HW.out.under hR hB0 jr.out) (HW.out.at 3 rfl) Ea Eb (by omega) (by omega)).mono ?_;rintro e aSk ⟨apE,aEO,aEP,rfl,ahd,ahe,dK⟩;refine⟨_,rfl,?_⟩;have a9Z:=dK.rv;have aa0:=dK.x0;have azg:=dK.x1;replace HW:=ah.mk (HW.out.rd 3 dK rfl);(try simp only[List.set_cons_zero,List.set_cons_succ]at HW);clear dK;have aEQ:=eq_true ahd;have aER:=eq_true ahe)|((with_reducible refine gd 54 rfl ?_);refine lli HW 0 apE 7 (by omega) (by omega) Tryz.underlying3 ?_;intro aSl)|((with_reducible refine aj (t:=99) (p:=4) rfl ?_);refine iA HW 1 ?_;clear HW;intro aSm HW;(try simp only[List.set_cons_zero,List.set_cons_succ]at HW)))
          refine bodyPost_ret (results_cell_row rfl _ _ g4 99 (vC _ _ _ _ _).toArray (0,0) _ rfl (HW.out.at 1 rfl) Tryz.underlying99 rfl (by kernel_rfl)) rfl ?_
          exact⟨_,_,_,_,rfl,⟨HW.out.ts,HW.out.at 3 rfl,a9Z,aa0,by omega⟩,⟨_,_,_,_,_,rfl,(by decide),(by decide)⟩⟩
def pG.T1:Bool×List (List Nat×List Nat):=(true,[([],[]),([],[]),([1],[1]),([0,2],[0,2]),([3],[3]),([],[]),([5,2],[5]),([6],[6]),([7],[7]),([4,8],[4,8]),([],[]),([10,9,6,0,1,2,3,4,5,6,7,8,9,10],[9,10])])
def pG.B1:List Nat:=[0,0,2,7,15,0,38,102,230,511,0,2047]
theorem pG.tab1:jm .any (opsOf Tryz.f34 1)=pG.T1:=by kernel_rfl
theorem pG.bits1:fQ pG.T1.2 pG.B1=true:=by kernel_rfl
theorem Sj{b g:Nat}{l:List Int}{wr w:World}{v:Value}{x:Int}(hR:RB b wr g l)(hB0:Below wr.heap.size wr w)(hg:w.heap[g]?=some (.cells (rC v x).toArray 75 (0,0)))(hv:RV wr l v)(h0:0≤x)(h1:x≤900000):Calls Tryz.prog 34 #[.pointer (some ⟨g,0,none⟩)] w fun e w'=>∃f0 f1 f2 f3 v' x',e= .returned (.agg (fC f0 f1 f2 f3).toArray)∧f3.size≤255∧RQ wr g l (x+100) w w' v' x':=by
 have hw:TW b vv w:=.none _ _
 have hn:∀n,¬vv g n:=fun _ h=>h
 have jr:=ah.mk hw
 have HW:ah (LW b (RX g) vv w [⟨g,rC v x,75⟩] (fun _ _=>True) vv w):=⟨LW.startR hw hg hn trivial (Mon.top _)⟩
 clear hw hn
 go_enter Tryz.func34,Tryz.ntmps34
 go_upto_region 1 with(first|((with_reducible refine gd 2 rfl ?_);refine lbx (N:=2) (t:=42) HW (fC 0 false 0 (⟨#[]⟩:ByteArray)) ?_;clear HW;intro g2 pF HW))
 replace HW:=ah.mk HW.out.drew
 refine tZ (ds:=[]) (S:=fun _=>True) _ (by kernel_rfl) rfl rfl trivial (fun _=>?_)
 generalize pF.drew=w1 at HW ⊢
 refine bR pG.tab1 pG.bits1 (fun HT_ HW_=>?_)
 refine pu 1 (some 5) (bm 12 2) rfl rfl ?_
 refine pu 5 (some 9) (bm 12 34) rfl rfl ?_
 refine yT (a':=(fun f=>⟨#[.pointer (some ⟨g,0,none⟩),undef,.pointer (some ⟨g2,0,none⟩),f 10,f 0,.pointer (some ⟨g,0,none⟩),f 2,f 3,f 4,.pointer (some ⟨g,0,none⟩),f 6,f 7,f 8,f 9,undef,undef,undef,undef,undef,undef,undef,undef,undef,undef,undef,undef,undef,undef,undef,undef,undef,undef,undef,undef,undef,undef,undef,undef,undef,undef,undef,undef,undef,undef,undef,undef,undef,undef,undef,undef,undef,undef,undef,undef,undef,undef,undef,undef,undef],[]⟩:(Nat→Value)→Act) (fun _=>undef)) rfl ?_
 refine anyI HT_.out 11 rfl (by kernel_rfl) (by kernel_rfl) (fun f=>⟨#[.pointer (some ⟨g,0,none⟩),undef,.pointer (some ⟨g2,0,none⟩),f 10,f 0,.pointer (some ⟨g,0,none⟩),f 2,f 3,f 4,.pointer (some ⟨g,0,none⟩),f 6,f 7,f 8,f 9,undef,undef,undef,undef,undef,undef,undef,undef,undef,undef,undef,undef,undef,undef,undef,undef,undef,undef,undef,undef,undef,undef,undef,undef,undef,undef,undef,undef,undef,undef,undef,undef,undef,undef,undef,undef,undef,undef,undef,undef,undef,undef,undef,undef,undef],[]⟩) (fun L w2=>∃vr xr,ah (LW b (RX g) vv w [⟨g2,fC 0 false 0 (⟨#[]⟩:ByteArray),42⟩,⟨g,rC vr xr,75⟩] (fun _ _=>True) vv w2)∧RV wr l vr∧0≤xr∧xr+(if L 2=true then 0 else 1)+(if L 6=true then 0 else 1)≤x+2) (F71 w.heap.size g g2) (fun w w'=>ay w w' g none) (fun _ _ _ _ h k=>k.mv h) ?_ ?_ 10 (((Array.replicate 12 false).setIfInBounds 1 true).setIfInBounds 5 true) (fun _=>undef) _ rfl (by decide) rfl (fun j hj hq=>?_) ⟨v,x,HW,hv,h0,by split<;>split<;>omega⟩
 ·skip
  clear HW
  intro i o ho hi L f w2 hL hN ⟨vr,xr,HW,hrv,hx0,hx1⟩ K hK
  have hQ_:=HW.out.at 1 rfl
  have hG_:=HW.out.at 0 rfl
  obtain _|_|_|_|_|_|_|_|_|_|_|i:=i
  ·skip
   simp only[List.getElem?_toArray,List.getElem?_cons_zero,List.getElem?_cons_succ,Option.some.injEq]at ho
   subst ho
   refine gF (by rfl) ?_
   refine wn (.slice (some ⟨w2.heap.size,0,none⟩) 4 4) 3 fI ?_
   exact hK _ _ (ay.of_below (dV (Below.refl _ _) _) g none) ⟨_,rfl,uf w2 _,Nat.ne_of_gt (fZ hQ_)⟩ ⟨vr,xr,⟨HW.out.quiet (dV (Below.refl _ _) _)⟩,hrv,hx0,hx1⟩
  ·skip
   simp only[List.getElem?_toArray,List.getElem?_cons_zero,List.getElem?_cons_succ,Option.some.injEq]at ho
   subst ho
   refine gF (by rfl) ?_
   refine wv (.pointer (some ⟨g,0,none⟩)) ?_
   exact hK (.pointer (some ⟨g,0,none⟩)) _ (ay.refl _ _ _) trivial ⟨vr,xr,HW,hrv,hx0,hx1⟩
  ·skip
   simp only[List.getElem?_toArray,List.getElem?_cons_zero,List.getElem?_cons_succ,Option.some.injEq]at ho
   subst ho
   refine gs Tryz.func22 #[.pointer (some ⟨g,0,none⟩),.int .i64 4] ?_
   refine(gK 4 hR (HW.out.under hR hB0 jr.out) hQ_ hrv hx0 (by split at hx1<;>split at hx1<;>omega) (by decide)).mono ?_
   rintro e w3 ⟨r,v',x',rfl,hr0,hr1,hq⟩
   refine⟨_,rfl,hK _ _ hq.kb ⟨r,rfl,hr0,hr1⟩ ⟨v',x',⟨HW.out.rd 1 hq rfl⟩,hq.rv,hq.x0,?_⟩⟩
   have hx2:=hq.x1
   simp only[hL,KH,upd_ne (show(6:Nat)≠2 by decide),if_true,Bool.false_eq_true,if_false]at hx1 ⊢
   split at hx1<;>simp_all<;>omega
  ·skip
   simp only[List.getElem?_toArray,List.getElem?_cons_zero,List.getElem?_cons_succ,Option.some.injEq]at ho
   subst ho
   refine gF (by rfl) ?_
   obtain⟨p,e0,hp,hpg⟩:=hN 0 rfl
   obtain⟨r,e2,hr0,hr1⟩:=hN 2 rfl
   have Yt:=eq_true hr0
   have Yu:=eq_true (show r<(4:Int)from hr1)
   refine wv (.pointer (some ⟨p,r.toNat,none⟩)) ?_ ?_
   ·exact hK _ _ (ay.refl _ _ _) ⟨p,r.toNat,rfl,hp,hpg,by omega⟩ ⟨vr,xr,HW,hrv,hx0,hx1⟩
   ·simp only[e0,e2]
    first|(go_simp;done)|(go_simp;rfl)
  ·skip
   simp only[List.getElem?_toArray,List.getElem?_cons_zero,List.getElem?_cons_succ,Option.some.injEq]at ho
   subst ho
   refine gF (by rfl) ?_
   obtain⟨p,r,e3,hp,hpg,hr⟩:=hN 3 rfl
   exact wli hp rfl hr Tryz.underlying3 rfl rfl e3 (fun q=>hK _ _ (ay.refl _ _ _) ⟨q,rfl⟩ ⟨vr,xr,HW,hrv,hx0,hx1⟩)
  ·skip
   simp only[List.getElem?_toArray,List.getElem?_cons_zero,List.getElem?_cons_succ,Option.some.injEq]at ho
   subst ho
   refine gF (by rfl) ?_
   refine wv (.pointer (some ⟨g,0,none⟩)) ?_
   exact hK (.pointer (some ⟨g,0,none⟩)) _ (ay.refl _ _ _) trivial ⟨vr,xr,HW,hrv,hx0,hx1⟩
  ·skip
   simp only[List.getElem?_toArray,List.getElem?_cons_zero,List.getElem?_cons_succ,Option.some.injEq]at ho
   subst ho
   refine gs Tryz.func22 #[.pointer (some ⟨g,0,none⟩),.int .i64 4] ?_
   refine(gK 4 hR (HW.out.under hR hB0 jr.out) hQ_ hrv hx0 (by split at hx1<;>split at hx1<;>omega) (by decide)).mono ?_
   rintro e w3 ⟨r,v',x',rfl,hr0,hr1,hq⟩
   refine⟨_,rfl,hK _ _ hq.kb ⟨r,rfl⟩ ⟨v',x',⟨HW.out.rd 1 hq rfl⟩,hq.rv,hq.x0,?_⟩⟩
   have hx2:=hq.x1
   simp only[hL,KH,upd_ne (show(2:Nat)≠6 by decide),if_true,Bool.false_eq_true,if_false]at hx1 ⊢
   split at hx1<;>simp_all<;>omega
  ·skip
   simp only[List.getElem?_toArray,List.getElem?_cons_zero,List.getElem?_cons_succ,Option.some.injEq]at ho
   subst ho
   obtain⟨q,e⟩:=hN 6 rfl
   refine gF (by rfl) ?_
   refine wv (.int .i64 (IntKind.i64.wrap (2*q))) ?_ ?_
   ·exact hK _ _ (ay.refl _ _ _) ⟨_,rfl⟩ ⟨vr,xr,HW,hrv,hx0,hx1⟩
   ·simp only[e]
    first|(go_simp;done)|(go_simp;rfl)
  ·skip
   simp only[List.getElem?_toArray,List.getElem?_cons_zero,List.getElem?_cons_succ,Option.some.injEq]at ho
   subst ho
   obtain⟨q,e⟩:=hN 7 rfl
   refine gF (by rfl) ?_
   refine wv (.int .i64 (IntKind.i64.wrap (1+q))) ?_ ?_
   ·exact hK _ _ (ay.refl _ _ _) ⟨_,rfl⟩ ⟨vr,xr,HW,hrv,hx0,hx1⟩
   ·simp only[e]
    first|(go_simp;done)|(go_simp;rfl)
  ·skip
   simp only[List.getElem?_toArray,List.getElem?_cons_zero,List.getElem?_cons_succ,Option.some.injEq]at ho
   subst ho
   refine gF (by rfl) ?_
   obtain⟨q,e⟩:=hN 4 rfl
   obtain⟨q2,e2⟩:=hN 8 rfl
   refine wv (.agg (fC q false q2 (⟨#[]⟩:ByteArray)).toArray) ?_ ?_
   ·exact hK _ _ (ay.refl _ _ _) ⟨q,q2,rfl⟩ ⟨vr,xr,HW,hrv,hx0,hx1⟩
   ·simp only[e,e2]
    first|(go_simp;done)|(go_simp;rfl)
  ·skip
   simp only[List.getElem?_toArray,List.getElem?_cons_zero,List.getElem?_cons_succ,Option.some.injEq]at ho
   subst ho
   refine gF (by rfl) ?_
   refine wn (.pointer (some ⟨w2.heap.size,0,none⟩)) 42 (fC 0 false 0 (⟨#[]⟩:ByteArray)) ?_
   exact hK _ _ (ay.of_below (dV (Below.refl _ _) _) g none) ⟨_,rfl,uf w2 _,Nat.ne_of_gt (fZ hQ_),Nat.ne_of_gt (fZ hG_),HW.out.ts.size⟩ ⟨vr,xr,⟨HW.out.quiet (dV (Below.refl _ _) _)⟩,hrv,hx0,hx1⟩
  ·omega
 ·skip
  clear HW
  intro o ho L f w2 hL hN ⟨vr,xr,HW,hrv,hx0,hx1⟩
  simp only[List.getElem?_toArray,List.getElem?_cons_zero,List.getElem?_cons_succ,Option.some.injEq]at ho
  subst ho
  obtain⟨g3,e10,hp,hpg,apF,hpb⟩:=hN 10 (by decide)
  obtain⟨q1,q2,e9⟩:=hN 9 (by decide)
  clear hN hL
  replace HW:=ah.mk (HW.out.have hp (by decide) (by intro y hy;simp only[List.mem_cons,List.not_mem_nil,or_false]at hy;rcases hy with rfl|rfl;exact apF.symm;exact hpg.symm) (fun _ h=>h) hpb)
  clear hp hpg apF hpb
  simp only[e10,e9]
  generalize f 0=u0,f 2=u2,f 3=u3,f 4=u4,f 6=u6,f 7=u7,f 8=u8
  clear e9 e10 f
  refine gF (by rfl) ?_
  refine oQ HW 0 0 (.agg (fC _ _ _ _).toArray) (fC _ _ _ _) (fC _ _ _ _) ?_ (fP rfl)
  clear HW
  intro w3 HW
  (try simp only[List.set_cons_zero,List.set_cons_succ]at HW)
  have hx2:xr≤x+2:=by split at hx1<;>split at hx1<;>omega
  clear hx1 HT_ HW_
  (try dsimp only)
  go_upto_block 0 with(first|((with_reducible refine gd 15 rfl ?_);refine lls HW 0 0 (.int .i64 q1) Tryz.underlying3 ?_))
  simp only[Act.put,s1,s2,s3]
  go_cut [] (fun wq=>∃(Mq:Nat→Nat→Prop)(f0q:Int)(f1q:Bool)(f2q:Int)(f3q:ByteArray)(vq:Value)(xq:Int),(f3q.size≤30)∧(RV wr l vq)∧(0≤xq)∧(xq≤x+70)∧ah (LW b (RX g) vv w [⟨g3,fC f0q f1q f2q f3q,42⟩,⟨g2,fC 0 false 0 (⟨#[]⟩:ByteArray),42⟩,⟨g,rC vq xq,75⟩] (fun _ _=>True) Mq wq))
  case first=>
   go_upto_if 16 with(fail)
   by_cases ahf:q1=0
   ·skip
    subst ahf
    go_wp2_with (first|((with_reducible refine gq 22 rfl ?_);refine gl (some 20) Tryz.func22 #[(.pointer (some ⟨g,0,none⟩)),(.int .i64 2)] ?_;with_reducible refine(gK 2 hR (HW.out.under hR hB0 jr.out) (HW.out.at 2 rfl) hrv hx0 (by omega) (by omega)).mono ?_;rintro e Ca ⟨mQ,agB,agC,rfl,RZ,S9,dK⟩;refine⟨_,rfl,?_⟩;have oU:=dK.rv;have oV:=dK.x0;have a9A:=dK.x1;replace HW:=ah.mk (HW.out.rd 2 dK rfl);(try simp only[List.set_cons_zero,List.set_cons_succ]at HW);clear dK;have agD:=eq_true RZ;have agE:=eq_true S9)|((with_reducible refine aj (t:=4) (p:=22) rfl ?_);refine lsb HW 0 1 (fun q=>fC 0 q q2 (⟨#[]⟩:ByteArray)) ?_;intro a2E xH HN;(try simp only[List.set_cons_zero,List.set_cons_succ]at HN);replace HW:=HN;clear HN)|((with_reducible refine gq 58 rfl ?_);refine gl (some 24) Tryz.func58 #[(.pointer (some ⟨g,0,none⟩))] ?_;with_reducible refine(Wd hR (HW.out.under hR hB0 jr.out) (HW.out.at 2 rfl) oU oV (by omega)).mono ?_;rintro e vZ ⟨ad9,Sb,Sc,rfl,agF,dK⟩;refine⟨_,rfl,?_⟩;have mK:=dK.rv;have mM:=dK.x0;have KL:=dK.x1;replace HW:=ah.mk (HW.out.rd 2 dK rfl);(try simp only[List.set_cons_zero,List.set_cons_succ]at HW);clear dK)|((with_reducible refine aj (t:=9) (p:=25) rfl ?_);refine mP HW 0 3 (.string ad9) (fC _ _ _ _) ([_]) ?_ (fP rfl);clear HW;intro AU HW;(try simp only[List.set_cons_zero,List.set_cons_succ]at HW)))
    go_meet
    exact⟨_,_,_,_,_,_,_,(by omega),mK,mM,(by omega),⟨LW.less HW.out trivial (Mon.top _)⟩⟩
   ·skip
    have aNY:(q1==0)=false:=beq_eq_false_iff_ne.mpr ahf
    have aNZ:(q1 != 0)=true:=bne_iff_ne.mpr ahf
    go_upto_if 16 with(fail)
    by_cases c109:q1=1
    ·skip
     subst c109
     go_wp2_with (first|((with_reducible refine gq 22 rfl ?_);refine gl (some 20) Tryz.func22 #[(.pointer (some ⟨g,0,none⟩)),(.int .i64 2)] ?_;with_reducible refine(gK 2 hR (HW.out.under hR hB0 jr.out) (HW.out.at 2 rfl) hrv hx0 (by omega) (by omega)).mono ?_;rintro e FB ⟨aO0,aES,aET,rfl,ahg,ahh,dK⟩;refine⟨_,rfl,?_⟩;have aa1:=dK.rv;have aa2:=dK.x0;have azh:=dK.x1;replace HW:=ah.mk (HW.out.rd 2 dK rfl);(try simp only[List.set_cons_zero,List.set_cons_succ]at HW);clear dK;have aEU:=eq_true ahg;have aEV:=eq_true ahh)|((with_reducible refine aj (t:=4) (p:=22) rfl ?_);refine lsb HW 0 1 (fun q=>fC 1 q q2 (⟨#[]⟩:ByteArray)) ?_;intro aSn Cb HN;(try simp only[List.set_cons_zero,List.set_cons_succ]at HN);replace HW:=HN;clear HN)|((with_reducible refine gq 58 rfl ?_);refine gl (some 24) Tryz.func58 #[(.pointer (some ⟨g,0,none⟩))] ?_;with_reducible refine(Wd hR (HW.out.under hR hB0 jr.out) (HW.out.at 2 rfl) aa1 aa2 (by omega)).mono ?_;rintro e Dh ⟨apG,ahi,ahj,rfl,aEW,dK⟩;refine⟨_,rfl,?_⟩;have KP:=dK.rv;have KQ:=dK.x0;have aa3:=dK.x1;replace HW:=ah.mk (HW.out.rd 2 dK rfl);(try simp only[List.set_cons_zero,List.set_cons_succ]at HW);clear dK)|((with_reducible refine aj (t:=9) (p:=25) rfl ?_);refine mP HW 0 3 (.string apG) (fC _ _ _ _) ([_]) ?_ (fP rfl);clear HW;intro KO HW;(try simp only[List.set_cons_zero,List.set_cons_succ]at HW)))
     go_meet
     exact⟨_,_,_,_,_,_,_,(by omega),KP,KQ,(by omega),⟨LW.less HW.out trivial (Mon.top _)⟩⟩
    ·skip
     have ada:(q1==1)=false:=beq_eq_false_iff_ne.mpr c109
     have adb:(q1 != 1)=true:=bne_iff_ne.mpr c109
     go_upto_if 26 with(fail)
     by_cases c116:q1=8
     ·skip
      subst c116
      go_upto_region 9 with(first|((with_reducible refine gq 22 rfl ?_);refine gl (some 29) Tryz.func22 #[(.pointer (some ⟨g,0,none⟩)),(.int .i64 31)] ?_;with_reducible refine(gK 31 hR (HW.out.under hR hB0 jr.out) (HW.out.at 2 rfl) hrv hx0 (by omega) (by omega)).mono ?_;rintro e yM ⟨aO1,aEX,aEY,rfl,ahk,ahl,dK⟩;refine⟨_,rfl,?_⟩;have aa4:=dK.rv;have aa5:=dK.x0;have azi:=dK.x1;replace HW:=ah.mk (HW.out.rd 2 dK rfl);(try simp only[List.set_cons_zero,List.set_cons_succ]at HW);clear dK;have aEZ:=eq_true ahk;have aF0:=eq_true ahl)|((with_reducible refine gq 59 rfl ?_);refine gl (some 31) Tryz.func59 #[(.int .i64 _)] ?_;with_reducible refine(KD _).mono ?_;rintro e Cc ⟨apH,rfl,azj,hb⟩;refine⟨_,rfl,?_⟩;replace HW:=ah.mk (HW.out.quiet hb);clear hb)|((with_reducible refine aj (t:=9) (p:=32) rfl ?_);refine mP HW 0 3 (.string apH) (fC _ _ _ _) ([_]) ?_ (fP rfl);clear HW;intro yN HW;(try simp only[List.set_cons_zero,List.set_cons_succ]at HW)))
      refine Wj HW (fun _=>True) [6] 7 (trivial) (fun AR HN hHeld=>?_)
      replace HW:=HN
      clear HN
      refine pw 0 (some 33) rfl rfl ?_
      refine tk 1 (some 34) (bm 7 3) rfl rfl hHeld ?_ (hy:=jQ _ 0 2 (.int .i64 q2) Tryz.underlying3)
      refine pw 2 (some 35) rfl rfl ?_
      refine fV (i:=3) (N:=some 36) (bm 7 15) rfl rfl (by kernel_rfl) (by decide) (fun K hK=>?_)
      refine gs Tryz.func22 #[(.pointer (some ⟨g,0,none⟩)),(.int .i64 2)] ?_
      with_reducible refine(gK 2 hR (HW.out.under hR hB0 jr.out) (HW.out.at 2 rfl) aa4 aa5 (by omega) (by omega)).mono ?_
      rintro e Fv ⟨apI,aF1,aF2,rfl,ahm,ahn,dK⟩
      refine⟨_,rfl,?_⟩
      have aa6:=dK.rv
      have aa7:=dK.x0
      have azk:=dK.x1
      replace HW:=ah.mk (HW.out.rd 2 dK rfl)
      (try simp only[List.set_cons_zero,List.set_cons_succ]at HW)
      clear dK
      have aF3:=eq_true ahm
      have aF4:=eq_true ahn
      refine hK.out _ _ ⟨HW.out.bxs.dl,trivial⟩ (fun hHeld=>?_)
      clear hK K
      refine nm ?_
      refine pw 4 (some 37) rfl rfl ?_
      refine pw 5 (some 38) rfl rfl ?_
      refine kJ (i:=6) (N:=none) (bm 7 127) rfl rfl (by kernel_rfl) (by decide) (fun K hK=>?_)
      refine gF (by rfl) ?_
      refine oQ HW 0 2 (.int .i64 (wrap64 (q2*apI))) (fC _ _ _ _) ([_]) ?_ (fP rfl)
      clear HW
      intro KI HW
      (try simp only[List.set_cons_zero,List.set_cons_succ]at HW)
      refine hK.out _ _ ?_
      clear hK K
      refine fw (by kernel_rfl) ?_
      go_wp2_with (fail)
      go_meet
      exact⟨_,_,_,_,_,_,_,(by omega),aa6,aa7,(by omega),⟨LW.less HW.out trivial (Mon.top _)⟩⟩
     ·skip
      have WA:(q1==8)=false:=beq_eq_false_iff_ne.mpr c116
      have ade:(q1 != 8)=true:=bne_iff_ne.mpr c116
      go_wp2_with (fail)
      go_meet
      exact⟨_,_,_,_,_,_,_,(by decide),hrv,hx0,(by omega),⟨LW.less HW.out trivial (Mon.top _)⟩⟩
  case rest=>
   obtain⟨Mq,f0q,f1q,f2q,f3q,vq,xq,aO2,adf,hx128,aO3,HC⟩:=hcut
   try clear HW
   have HW:=HC
   clear HC
   go_upto_if 41 with(first|((with_reducible refine gq 22 rfl ?_);refine gl (some 40) Tryz.func22 #[(.pointer (some ⟨g,0,none⟩)),(.int .i64 24)] ?_;with_reducible refine(gK 24 hR (HW.out.under hR hB0 jr.out) (HW.out.at 2 rfl) adf hx128 (by omega) (by omega)).mono ?_;rintro e PO ⟨wm,agR,agS,rfl,Sg,Si,dK⟩;refine⟨_,rfl,?_⟩;have xB:=dK.rv;have xC:=dK.x0;have a9J:=dK.x1;replace HW:=ah.mk (HW.out.rd 2 dK rfl);(try simp only[List.set_cons_zero,List.set_cons_succ]at HW);clear dK;have agT:=eq_true Sg;have agU:=eq_true Si))
   by_cases aho:wm=0
   ·skip
    subst aho
    go_wp2_with (first|((with_reducible refine gq 22 rfl ?_);refine gl (some 44) Tryz.func22 #[(.pointer (some ⟨g,0,none⟩)),(.int .i64 10)] ?_;with_reducible refine(gK 10 hR (HW.out.under hR hB0 jr.out) (HW.out.at 2 rfl) xB xC (by omega) (by omega)).mono ?_;rintro e a2z ⟨apJ,aF5,aF6,rfl,ahp,ahq,dK⟩;refine⟨_,rfl,?_⟩;have aa8:=dK.rv;have aa9:=dK.x0;have azl:=dK.x1;replace HW:=ah.mk (HW.out.rd 2 dK rfl);(try simp only[List.set_cons_zero,List.set_cons_succ]at HW);clear dK;have aF7:=eq_true ahp;have aF8:=eq_true ahq)|((with_reducible refine aj (t:=3) (p:=45) rfl ?_);refine mP HW 0 0 (.int .i64 apJ) (fC _ _ _ _) ([_]) ?_ (fP rfl);clear HW;intro aac HW;(try simp only[List.set_cons_zero,List.set_cons_succ]at HW))|((with_reducible refine gd 58 rfl ?_);refine uN HW 0 0 (fC _ _ _ _) Tryz.underlying42 ?_)|((with_reducible refine aj (t:=42) (p:=2) rfl ?_);refine iA HW 1 ?_;clear HW;intro a2A HW;(try simp only[List.set_cons_zero,List.set_cons_succ]at HW)))
    refine bodyPost_ret (results_cell_row rfl _ _ g2 42 (fC _ _ _ _).toArray (0,0) _ rfl (HW.out.at 1 rfl) Tryz.underlying42 rfl (by kernel_rfl)) rfl ?_
    exact⟨_,_,_,_,_,_,rfl,(by omega),HW.out.rq (i:=2) rfl aa8 aa9 (by omega)⟩
   ·skip
    have aO4:(wm==0)=false:=beq_eq_false_iff_ne.mpr aho
    have aO5:(wm != 0)=true:=bne_iff_ne.mpr aho
    go_upto_if 46 with(fail)
    by_cases KR:wm=1
    ·skip
     subst KR
     go_wp2_with (first|((with_reducible refine gq 22 rfl ?_);refine gl (some 49) Tryz.func22 #[(.pointer (some ⟨g,0,none⟩)),(.int .i64 10)] ?_;with_reducible refine(gK 10 hR (HW.out.under hR hB0 jr.out) (HW.out.at 2 rfl) xB xC (by omega) (by omega)).mono ?_;rintro e apK ⟨apL,aF9,aFa,rfl,ahr,ahs,dK⟩;refine⟨_,rfl,?_⟩;have aad:=dK.rv;have aae:=dK.x0;have azm:=dK.x1;replace HW:=ah.mk (HW.out.rd 2 dK rfl);(try simp only[List.set_cons_zero,List.set_cons_succ]at HW);clear dK;have aFb:=eq_true ahr;have aFc:=eq_true ahs)|((with_reducible refine aj (t:=3) (p:=50) rfl ?_);refine mP HW 0 2 (.int .i64 apL) (fC _ _ _ _) ([_]) ?_ (fP rfl);clear HW;intro agX HW;(try simp only[List.set_cons_zero,List.set_cons_succ]at HW))|((with_reducible refine gd 58 rfl ?_);refine uN HW 0 0 (fC _ _ _ _) Tryz.underlying42 ?_)|((with_reducible refine aj (t:=42) (p:=2) rfl ?_);refine iA HW 1 ?_;clear HW;intro aht HW;(try simp only[List.set_cons_zero,List.set_cons_succ]at HW)))
     refine bodyPost_ret (results_cell_row rfl _ _ g2 42 (fC _ _ _ _).toArray (0,0) _ rfl (HW.out.at 1 rfl) Tryz.underlying42 rfl (by kernel_rfl)) rfl ?_
     exact⟨_,_,_,_,_,_,rfl,(by omega),HW.out.rq (i:=2) rfl aad aae (by omega)⟩
    ·skip
     have WB:(wm==1)=false:=beq_eq_false_iff_ne.mpr KR
     have aO6:(wm != 1)=true:=bne_iff_ne.mpr KR
     go_upto_if 51 with(fail)
     by_cases ahu:wm=2
     ·skip
      subst ahu
      go_wp2_with (first|((with_reducible refine gq 22 rfl ?_);refine gl (some 54) Tryz.func22 #[(.pointer (some ⟨g,0,none⟩)),(.int .i64 10)] ?_;with_reducible refine(gK 10 hR (HW.out.under hR hB0 jr.out) (HW.out.at 2 rfl) xB xC (by omega) (by omega)).mono ?_;rintro e a9P ⟨adg,aFd,aFe,rfl,ahv,ahw,dK⟩;refine⟨_,rfl,?_⟩;have aaf:=dK.rv;have aag:=dK.x0;have azn:=dK.x1;replace HW:=ah.mk (HW.out.rd 2 dK rfl);(try simp only[List.set_cons_zero,List.set_cons_succ]at HW);clear dK;have aFf:=eq_true ahv;have aFg:=eq_true ahw)|((with_reducible refine gq 47 rfl ?_);refine gl (some 56) Tryz.func47 #[(.string (⟨#[120]⟩:ByteArray)),(.int .i64 (195+adg))] ?_;with_reducible refine(Wi (⟨#[120]⟩:ByteArray) (195+adg) (by decide) (by omega) (by omega)).mono ?_;rintro e aFh ⟨apM,rfl,azo,hb⟩;refine⟨_,rfl,?_⟩;replace HW:=ah.mk (HW.out.quiet hb);clear hb)|((with_reducible refine aj (t:=9) (p:=57) rfl ?_);refine mP HW 0 3 (.string apM) (fC _ _ _ _) ([_]) ?_ (fP rfl);clear HW;intro ah0 HW;(try simp only[List.set_cons_zero,List.set_cons_succ]at HW))|((with_reducible refine gd 58 rfl ?_);refine uN HW 0 0 (fC _ _ _ _) Tryz.underlying42 ?_)|((with_reducible refine aj (t:=42) (p:=2) rfl ?_);refine iA HW 1 ?_;clear HW;intro apN HW;(try simp only[List.set_cons_zero,List.set_cons_succ]at HW)))
      refine bodyPost_ret (results_cell_row rfl _ _ g2 42 (fC _ _ _ _).toArray (0,0) _ rfl (HW.out.at 1 rfl) Tryz.underlying42 rfl (by kernel_rfl)) rfl ?_
      exact⟨_,_,_,_,_,_,rfl,(by omega),HW.out.rq (i:=2) rfl aaf aag (by omega)⟩
     ·skip
      have aO7:(wm==2)=false:=beq_eq_false_iff_ne.mpr ahu
      have aO8:(wm != 2)=true:=bne_iff_ne.mpr ahu
      go_wp2_with (first|((with_reducible refine gd 58 rfl ?_);refine uN HW 0 0 (fC _ _ _ _) Tryz.underlying42 ?_)|((with_reducible refine aj (t:=42) (p:=2) rfl ?_);refine iA HW 1 ?_;clear HW;intro a2C HW;(try simp only[List.set_cons_zero,List.set_cons_succ]at HW)))
      refine bodyPost_ret (results_cell_row rfl _ _ g2 42 (fC _ _ _ _).toArray (0,0) _ rfl (HW.out.at 1 rfl) Tryz.underlying42 rfl (by kernel_rfl)) rfl ?_
      exact⟨_,_,_,_,_,_,rfl,(by omega),HW.out.rq (i:=2) rfl xB xC (by omega)⟩
 ·obtain _|_|_|_|_|_|_|_|_|_|_|j:=j<;>first|(exact absurd hq (by decide))|trivial|omega
def iN.T3:Bool×List (List Nat×List Nat):=(true,[([],[]),([0],[0]),([1],[1]),([2],[2]),([3,2],[2,3]),([2,4],[2,4]),([5,2],[5]),([6],[6]),([7,6],[6,7]),([8,6],[6,8]),([9,6],[6,9]),([10,6,6],[6,10]),([11],[11]),([12,11],[11,12]),([11],[11]),([14,11],[11,14]),([15,11],[11,15]),([16,11],[11,16]),([13,17,11],[11,13,17]),([18,11],[11,18]),([19,11],[11,19]),([11],[11]),([21,11],[11,21]),([20,22,11],[11,20,22]),([11,23,6],[6,11,23]),([6,24],[6,24])])
def iN.B3:List Nat:=[0,1,3,7,15,31,63,127,255,511,1023,2047,4095,8191,4095,20479,53247,118783,262143,524287,1048575,4095,2101247,8388607,16777215,33554431]
theorem iN.tab3:jm .any (opsOf Tryz.f99 3)=iN.T3:=by kernel_rfl
theorem iN.bits3:fQ iN.T3.2 iN.B3=true:=by kernel_rfl
def iN.T5:Bool×List (List Nat×List Nat):=(true,[([],[]),([0],[0]),([],[]),([2],[2]),([3],[3]),([4],[4]),([1,5,4],[1,5]),([0,1,2,3,4,5,6],[]),([7,6,6,0,1,2,3,4,5,6],[6,7])])
def iN.B5:List Nat:=[0,1,0,4,12,28,63,127,255]
theorem iN.tab5:jm .any (opsOf Tryz.f99 5)=iN.T5:=by kernel_rfl
theorem iN.bits5:fQ iN.T5.2 iN.B5=true:=by kernel_rfl
theorem Sk{b N C:Nat}{w:World}{M:Nat→Nat→Prop}{x0:Bool}{v1:Value}{x2:Int}{v3:Value}{x4:Int}{x5:ByteArray}{v6:Value}{x7 x8:Int}{v9:Value}{x10:Bool}{f0:Int}{f1:Bool}{f2:Int}{f3:ByteArray}(hw:TW b M w)(hb0:b≤w.heap.size)(E:ET b M w N C v1 x2 v3 x4 x5 v6 v9)(hN:N≤3000000)(hf:f3.size≤700):Calls Tryz.prog 99 #[.agg (eC x0 v1 x2 v3 x4 x5 v6 x7 x8 v9 x10).toArray,.agg (fC f0 f1 f2 f3).toArray] w (EPost b M w (N+1) C):=by
 obtain⟨A1,n1,c1,A3,n3,c3,A6,n6,c6,A9,n9,c9,rfl,rfl,rfl,rfl,Qg,Qh⟩:=E.form4
 have HW:ah (LW b NX M w [] (xw b N C (.slice A1 n1 c1) x2 (.slice A3 n3 c3) x4 x5 (.slice A6 n6 c6) (.slice A9 n9 c9)) M w):=⟨LW.start hw E (Mon.et _ _ _ _ _ _ _ _ _)⟩
 clear hw E
 go_enter Tryz.func99,Tryz.ntmps99
 go_upto_region 3 with(first|((with_reducible refine gd 2 rfl ?_);refine lbx (N:=2) (t:=31) HW (eC x0 (.slice A1 n1 c1) x2 (.slice A3 n3 c3) x4 x5 (.slice A6 n6 c6) x7 x8 (.slice A9 n9 c9) x10) ?_;clear HW;intro g2 pF HW)|((with_reducible refine gd 3 rfl ?_);refine lbx (N:=3) (t:=42) HW (fC f0 f1 f2 f3) ?_;clear HW;intro g3 xG HW)|((with_reducible refine gd 4 rfl ?_);refine lbx (N:=4) (t:=31) HW zE ?_;clear HW;intro g4 AX HW)|((with_reducible refine gd 12 rfl ?_);refine uN HW 2 3 (tC _ _) Tryz.underlying25 ?_)|((with_reducible refine gd 14 rfl ?_);refine lls HW 1 3 (.string f3) Tryz.underlying9 ?_)|((with_reducible refine gq 106 rfl ?_);refine gl (some 15) Tryz.func106 #[(.agg (tC _ _).toArray),(.string f3)] ?_;with_reducible refine(RG _ _ _ HW.out.ts.tw (HW.out.hb hb0) HW.out.g.t3 (by omega)).mono ?_;rintro e xH ⟨FC,FD,FH,PS,PU,xX,PV,WC,rfl,hv_,gQ,hb⟩;refine⟨_,rfl,?_⟩;replace HW:=ah.mk (LW.fact (H:=CTF b WC (.slice FC FD FH) PS) (LW.fact (H:=HVF b (.slice PU xX PV)) (HW.out.quiet hb) hv_ (Mon.hv _)) gQ (Mon.ctv _ _ _));clear hv_ gQ hb)|((with_reducible refine gd 5 rfl ?_);refine lbx (N:=5) (t:=25) HW (tC (.slice none 0 0) 0) ?_;clear HW;intro g5 PK HW)|((with_reducible refine aj (t:=25) (p:=5) rfl ?_);refine iA HW 0 ?_;clear HW;intro vZ HW;(try simp only[List.set_cons_zero,List.set_cons_succ]at HW))|((with_reducible refine gd 19 rfl ?_);refine lE HW 3 0 ?_)|((with_reducible refine gd 21 rfl ?_);refine lls HW 2 2 (.int .i64 f2) Tryz.underlying3 ?_)|((with_reducible refine gq 49 rfl ?_);refine gl (some 22) Tryz.func49 #[(.agg (eC _ _ _ _ _ _ _ _ _ _ _).toArray),(.int .i64 f2)] ?_;with_reducible refine(Ig f2 HW.out.ts.tw (N:=N) (C:=C) (HW.out.g.1.1.up (by omega)) (by omega)).mono ?_;rintro e AQ ⟨aFi,rfl,aFj,aFk,hb⟩;refine⟨_,rfl,?_⟩;replace HW:=ah.mk (HW.out.quiet hb);clear hb))
 go_cut [48] (fun y48 wq=>∃(Mq:Nat→Nat→Prop)(cq:Bool),(y48= .bool cq)∧ah (LW b NX M w [⟨g5,tC (.slice FC FD FH) PS,25⟩,⟨g4,eC false (.slice none 0 0) 0 (.slice none 0 0) 0 (⟨#[]⟩:ByteArray) (.slice none 0 0) 0 0 (.slice none 0 0) false,31⟩,⟨g3,fC f0 f1 f2 f3,42⟩,⟨g2,eC x0 (.slice A1 n1 c1) x2 (.slice A3 n3 c3) x4 x5 (.slice A6 n6 c6) x7 x8 (.slice A9 n9 c9) x10,31⟩] (fun M w=>(((xw b N C (.slice A1 n1 c1) x2 (.slice A3 n3 c3) x4 x5 (.slice A6 n6 c6) (.slice A9 n9 c9)) M w)∧(HVF b (.slice PU xX PV)) M w)∧(CTF b WC (.slice FC FD FH) PS) M w) Mq wq))
 case first=>
  go_upto_region 3 with(fail)
  by_cases yQ:aFi<0
  ·skip
   have CW:=decide_eq_true yQ
   cases x0 with
   |true=>
    by_cases AY:(n6:Int)=0
    ·skip
     have WE:((n6:Int)==0)=true:=beq_iff_eq.mpr AY
     have adh:((n6:Int) != 0)=false:=bne_eq_false_iff_eq.mpr AY
     have aOa:=ah.mk AY
     clear AY
     refine nA HW (fun _=>True) [] 26 (trivial) (fun AV HN hHeld=>?_)
     replace HW:=HN
     clear HN
     refine bR iN.tab3 iN.bits3 (fun HT_ HW_=>?_)
     refine pw 0 (some 23) rfl rfl ?_
     refine pw 1 (some 24) rfl rfl ?_
     refine pw 2 (some 25) rfl rfl ?_
     refine pw 3 (some 26) rfl rfl ?_
     refine tk 4 (some 27) (bm 26 31) rfl rfl hHeld ?_ (hy:=jQ _ 3 0 (.bool true) Tryz.underlying4)
     refine pw 5 (some 28) rfl rfl ?_
     refine pw 6 (some 29) rfl rfl ?_
     refine pw 7 (some 30) rfl rfl ?_
     refine tk 8 (some 31) (bm 26 511) rfl rfl hHeld ?_ (hy:=jQ _ 3 6 (.slice A6 n6 c6) Tryz.underlying26)
     refine pw 9 (some 32) rfl rfl ?_
     refine pw 10 (some 33) rfl rfl ?_
     refine pw 11 (some 34) rfl rfl ?_
     refine pn 12 (some 35) rfl rfl ?_
     refine pn 13 (some 36) rfl rfl ?_
     refine pn 14 (some 37) rfl rfl ?_
     refine pn 15 (some 38) rfl rfl ?_
     refine pn 16 (some 39) rfl rfl ?_
     refine pn 17 (some 40) rfl rfl ?_
     refine pn 18 (some 41) rfl rfl ?_
     refine pn 19 (some 42) rfl rfl ?_
     refine pn 20 (some 43) rfl rfl ?_
     refine pn 21 (some 44) rfl rfl ?_
     refine pn 22 (some 45) rfl rfl ?_
     refine pn 23 (some 46) rfl rfl ?_
     refine pw 24 (some 47) rfl rfl ?_
     refine pw 25 (some 48) rfl rfl ?_
     refine fw (dM HT_.out (by kernel_rfl)) ?_
     clear HT_ HW_
     go_wp2_with (fail)
     go_meet
     exact⟨_,_,rfl,⟨LW.less HW.out ⟨⟨(HW.out.g.1.1.up (by omega)),HW.out.g.1.2⟩,HW.out.g.2⟩ (Mon.and (Mon.and (Mon.et _ _ _ _ _ _ _ _ _) (Mon.hv _)) (Mon.ctv _ _ _))⟩⟩
    ·skip
     have WE:((n6:Int)==0)=false:=beq_eq_false_iff_ne.mpr AY
     have adh:((n6:Int) != 0)=true:=bne_iff_ne.mpr AY
     have hw_:wrap64 ((n6:Int)-1)=(n6:Int)-1:=dP _ (by omega) (by omega)
     have adi:=(show 0≤wrap64 ((n6:Int)-1)∧wrap64 ((n6:Int)-1)<(n6:Int)from⟨by omega,by omega⟩)
     obtain⟨aah,apO,_,_⟩:=SL.has (HW.out.g.1.1.s6) (by omega)
     subst apO
     obtain⟨s0_e1,s1_e1,u2_e1,s3_e1,s4_e1,s5_e1,s6_e1,u7_e1,s8_e1,s9_e1,s10_e1,s11_e1,hr_e1,hs_e1⟩:=HW.out.rd39 (HW.out.g.1.1.s6) (i:=wrap64 ((n6:Int)-1)) (by omega) (by omega)
     obtain⟨A2_e1,n2_e1,d2_e1,A7_e1,n7_e1,d7_e1,yS,Cf⟩:=hs_e1.form
     subst yS Cf
     replace HW:=ah.mk (LW.fact (H:=Ih b (.slice A2_e1 n2_e1 d2_e1) s3_e1 s6_e1 (.slice A7_e1 n7_e1 d7_e1) s8_e1) HW.out hs_e1 (Mon.st _ _ _ _ _))
     clear hs_e1
     have pi_e1:=eq_true adi.1
     have qi_e1:=eq_true adi.2
     clear hw_
     refine nA HW (fun W=>W.rangeAt aah ((wrap64 ((n6:Int)-1)).toNat*12) (sC s0_e1 s1_e1 (.slice A2_e1 n2_e1 d2_e1) s3_e1 s4_e1 s5_e1 s6_e1 (.slice A7_e1 n7_e1 d7_e1) s8_e1 s9_e1 s10_e1 s11_e1)) [] 26 (hr_e1) (fun KO HN hHeld=>?_)
     replace HW:=HN
     clear HN
     refine bR iN.tab3 iN.bits3 (fun HT_ HW_=>?_)
     refine pw 0 (some 23) rfl rfl ?_
     refine pw 1 (some 24) rfl rfl ?_
     refine pw 2 (some 25) rfl rfl ?_
     refine pw 3 (some 26) rfl rfl ?_
     refine tk 4 (some 27) (bm 26 31) rfl rfl hHeld ?_ (hy:=jQ _ 3 0 (.bool true) Tryz.underlying4)
     refine pw 5 (some 28) rfl rfl ?_
     refine pw 6 (some 29) rfl rfl ?_
     refine pw 7 (some 30) rfl rfl ?_
     refine tk 8 (some 31) (bm 26 511) rfl rfl hHeld ?_ (hy:=jQ _ 3 6 (.slice (some ⟨aah,0,none⟩) n6 c6) Tryz.underlying26)
     refine pw 9 (some 32) rfl rfl ?_
     refine pw 10 (some 33) rfl rfl ?_
     refine pw 11 (some 34) rfl rfl ?_
     refine pw 12 (some 35) rfl rfl ?_
     refine tk 13 (some 36) (bm 26 16383) rfl rfl hHeld ?_ (hy:=jQ _ 3 6 (.slice (some ⟨aah,0,none⟩) n6 c6) Tryz.underlying26)
     refine pw 14 (some 37) rfl rfl ?_
     refine tk 15 (some 38) (bm 26 65535) rfl rfl hHeld ?_ (hy:=jQ _ 3 6 (.slice (some ⟨aah,0,none⟩) n6 c6) Tryz.underlying26)
     refine pw 16 (some 39) rfl rfl ?_
     refine pw 17 (some 40) rfl rfl ?_
     refine pw 18 (some 41) rfl rfl ?_
     refine pw 19 (some 42) rfl rfl ?_
     refine tk 20 (some 43) (bm 26 2097151) rfl rfl hHeld ?_ (hy:=CS (.int .i64 s0_e1) (fun W h=>((fun W h=>h)) W h 0 _ rfl) Tryz.underlying3)
     refine pw 21 (some 44) rfl rfl ?_
     refine tk 22 (some 45) (bm 26 8388607) rfl rfl hHeld ?_ (hy:=jQ _ 2 2 (.int .i64 f2) Tryz.underlying3)
     refine pw 23 (some 46) rfl rfl ?_
     refine pw 24 (some 47) rfl rfl ?_
     refine pw 25 (some 48) rfl rfl ?_
     refine fw (dM HT_.out (by kernel_rfl)) ?_
     clear HT_ HW_
     go_wp2_with (fail)
     go_meet
     exact⟨_,_,rfl,⟨LW.less HW.out ⟨⟨(HW.out.g.1.1.1.up (by omega)),HW.out.g.1.1.2⟩,HW.out.g.1.2⟩ (Mon.and (Mon.and (Mon.et _ _ _ _ _ _ _ _ _) (Mon.hv _)) (Mon.ctv _ _ _))⟩⟩
   |false=>
    refine nA HW (fun _=>True) [] 26 (trivial) (fun yO HN hHeld=>?_)
    replace HW:=HN
    clear HN
    refine bR iN.tab3 iN.bits3 (fun HT_ HW_=>?_)
    refine pw 0 (some 23) rfl rfl ?_
    refine pw 1 (some 24) rfl rfl ?_
    refine pw 2 (some 25) rfl rfl ?_
    refine pw 3 (some 26) rfl rfl ?_
    refine tk 4 (some 27) (bm 26 31) rfl rfl hHeld ?_ (hy:=jQ _ 3 0 (.bool false) Tryz.underlying4)
    refine pw 5 (some 28) rfl rfl ?_
    refine pw 6 (some 29) rfl rfl ?_
    refine pn 7 (some 30) rfl rfl ?_
    refine pn 8 (some 31) rfl rfl ?_
    refine pn 9 (some 32) rfl rfl ?_
    refine pn 10 (some 33) rfl rfl ?_
    refine pn 11 (some 34) rfl rfl ?_
    refine pn 12 (some 35) rfl rfl ?_
    refine pn 13 (some 36) rfl rfl ?_
    refine pn 14 (some 37) rfl rfl ?_
    refine pn 15 (some 38) rfl rfl ?_
    refine pn 16 (some 39) rfl rfl ?_
    refine pn 17 (some 40) rfl rfl ?_
    refine pn 18 (some 41) rfl rfl ?_
    refine pn 19 (some 42) rfl rfl ?_
    refine pn 20 (some 43) rfl rfl ?_
    refine pn 21 (some 44) rfl rfl ?_
    refine pn 22 (some 45) rfl rfl ?_
    refine pn 23 (some 46) rfl rfl ?_
    refine pn 24 (some 47) rfl rfl ?_
    refine pw 25 (some 48) rfl rfl ?_
    refine fw (dM HT_.out (by kernel_rfl)) ?_
    clear HT_ HW_
    go_wp2_with (fail)
    go_meet
    exact⟨_,_,rfl,⟨LW.less HW.out ⟨⟨(HW.out.g.1.1.up (by omega)),HW.out.g.1.2⟩,HW.out.g.2⟩ (Mon.and (Mon.and (Mon.et _ _ _ _ _ _ _ _ _) (Mon.hv _)) (Mon.ctv _ _ _))⟩⟩
  ·skip
   have CW:=decide_eq_false yQ
   refine nA HW (fun _=>True) [] 26 (trivial) (fun yL HN hHeld=>?_)
   replace HW:=HN
   clear HN
   refine bR iN.tab3 iN.bits3 (fun HT_ HW_=>?_)
   refine pw 0 (some 23) rfl rfl ?_
   refine pw 1 (some 24) rfl rfl ?_
   refine pw 2 (some 25) rfl rfl ?_
   refine pn 3 (some 26) rfl rfl ?_
   refine pn 4 (some 27) rfl rfl ?_
   refine pw 5 (some 28) rfl rfl ?_
   refine pw 6 (some 29) rfl rfl ?_
   refine pn 7 (some 30) rfl rfl ?_
   refine pn 8 (some 31) rfl rfl ?_
   refine pn 9 (some 32) rfl rfl ?_
   refine pn 10 (some 33) rfl rfl ?_
   refine pn 11 (some 34) rfl rfl ?_
   refine pn 12 (some 35) rfl rfl ?_
   refine pn 13 (some 36) rfl rfl ?_
   refine pn 14 (some 37) rfl rfl ?_
   refine pn 15 (some 38) rfl rfl ?_
   refine pn 16 (some 39) rfl rfl ?_
   refine pn 17 (some 40) rfl rfl ?_
   refine pn 18 (some 41) rfl rfl ?_
   refine pn 19 (some 42) rfl rfl ?_
   refine pn 20 (some 43) rfl rfl ?_
   refine pn 21 (some 44) rfl rfl ?_
   refine pn 22 (some 45) rfl rfl ?_
   refine pn 23 (some 46) rfl rfl ?_
   refine pn 24 (some 47) rfl rfl ?_
   refine pw 25 (some 48) rfl rfl ?_
   refine fw (dM HT_.out (by kernel_rfl)) ?_
   clear HT_ HW_
   go_wp2_with (fail)
   go_meet
   exact⟨_,_,rfl,⟨LW.less HW.out ⟨⟨(HW.out.g.1.1.up (by omega)),HW.out.g.1.2⟩,HW.out.g.2⟩ (Mon.and (Mon.and (Mon.et _ _ _ _ _ _ _ _ _) (Mon.hv _)) (Mon.ctv _ _ _))⟩⟩
 case rest=>
  obtain⟨Mq,cq,rfl,HC⟩:=hcut
  try clear HW
  have HW:=HC
  clear HC
  go_upto_if 48 with(fail)
  go_cut [8] (fun y8 wq=>∃(Mq:Nat→Nat→Prop)(A6q:Option Addr)(n6q:Nat)(c6q:Nat)(kq:Int),(y8= .int .i64 kq)∧(-1≤kq∧kq<(n6q:Int))∧ah (LW b NX M w [⟨g5,tC (.slice FC FD FH) PS,25⟩,⟨g4,eC false (.slice none 0 0) 0 (.slice none 0 0) 0 (⟨#[]⟩:ByteArray) (.slice none 0 0) 0 0 (.slice none 0 0) false,31⟩,⟨g3,fC f0 f1 f2 f3,42⟩,⟨g2,eC x0 (.slice A1 n1 c1) x2 (.slice A3 n3 c3) x4 x5 (.slice A6q n6q c6q) x7 x8 (.slice A9 n9 c9) x10,31⟩] (fun M w=>((((xw b N C (.slice A1 n1 c1) x2 (.slice A3 n3 c3) x4 x5 (.slice A6 n6 c6) (.slice A9 n9 c9)) M w)∧(HVF b (.slice PU xX PV)) M w)∧(CTF b WC (.slice FC FD FH) PS) M w)∧(Ya 39 (N+1) (.slice A6q n6q c6q)) M w) Mq wq))
  case first=>
   cases cq with
   |true=>
    go_upto_region 5 with(first|((with_reducible refine gd 50 rfl ?_);refine lls HW 3 6 (.slice A6 n6 c6) Tryz.underlying26 ?_))
    refine nA HW (fun _=>True) [6,8] 9 (trivial) (fun xI HN hHeld=>?_)
    replace HW:=HN
    clear HN
    refine bR iN.tab5 iN.bits5 (fun HT_ HW_=>?_)
    refine pw 0 (some 52) rfl rfl ?_
    refine tk 1 (some 53) (bm 9 3) rfl rfl hHeld ?_ (hy:=jQ _ 3 6 (.slice A6 n6 c6) Tryz.underlying26)
    refine pw 2 (some 54) rfl rfl ?_
    refine tk 3 (some 55) (bm 9 15) rfl rfl hHeld ?_ (hy:=jQ _ 2 2 (.int .i64 f2) Tryz.underlying3)
    refine fV (i:=4) (N:=some 56) (bm 9 31) rfl rfl (bL HT_.out (by kernel_rfl)) (by decide) (fun K hK=>?_)
    refine gs Tryz.func88 #[(.int .i64 f2)] ?_
    with_reducible refine(a2d f2 (HW.out.hb hb0)).mono ?_
    rintro e yN ⟨Sl,Sm,Sn,Sq,Sr,Sv,rfl,hs_,hb⟩
    refine⟨_,rfl,?_⟩
    replace HW:=ah.mk (LW.fact (H:=Ih b (.slice Sl Sm Sn) (⟨#[]⟩:ByteArray) 0 (.slice Sq Sr Sv) (⟨#[]⟩:ByteArray)) (HW.out.quiet hb) hs_ (Mon.st _ _ _ _ _))
    clear hs_ hb
    refine hK.out _ _ ⟨HW.out.bxs,trivial⟩ (fun hHeld=>?_)
    clear hK K
    refine nm ?_
    refine fV (i:=5) (N:=some 57) (bm 9 63) rfl rfl (bL HT_.out (by kernel_rfl)) (by decide) (fun K hK=>?_)
    refine gF (by rfl) ?_
    refine KC (t:=39) (m:=1) HW (sC f2 1 (.slice Sl Sm Sn) (⟨#[]⟩:ByteArray) false false 0 (.slice Sq Sr Sv) (⟨#[]⟩:ByteArray) false 8 8) ?_
    clear HW
    intro g57 AR HW
    refine hK.out _ _ ⟨HW.out.drop.bxs,trivial⟩ (fun hHeld=>?_)
    clear hK K
    refine nm ?_
    refine kJ (i:=6) (N:=some 58) (bm 9 127) rfl rfl (bL HT_.out (by kernel_rfl)) (by decide) (fun K hK=>?_)
    refine gF (by rfl) ?_
    refine a2c (T:=39) (m:=1) (bytes:=136) (z:=.agg (sC 0 0 (.slice none 0 0) (⟨#[]⟩:ByteArray) false false 0 (.slice none 0 0) (⟨#[]⟩:ByteArray) false 0 0).toArray) (news:=sC f2 1 (.slice Sl Sm Sn) (⟨#[]⟩:ByteArray) false false 0 (.slice Sq Sr Sv) (⟨#[]⟩:ByteArray) false 8 8) HW (HW.out.g.1.1.1.s6) (HW.out.hb hb0) rfl (vX HW.out (i:=0) rfl) (fP rfl) (by decide) (fun i hi=>by obtain rfl:i=0:=(by omega);exact .inl ⟨rfl,_,_,_,_,_,_,_,_,_,_,_,_,rfl,HW.out.g.2⟩) (by kernel_rfl) (by rfl) (by decide) (by omega) (by simp only[maxLen];omega) Tryz.underlying26 ?_
    intro a2o PD aDI Gu HN gQ pJ
    replace HW:=ah.mk (LW.fact (H:=Ya 39 (N+1) (.slice a2o (n6+1) PD)) HN.out pJ (Mon.sl _ _ _))
    clear HN pJ gQ
    refine hK.out _ _ ?_
    clear hK K
    refine nm ?_
    refine pw 7 (some 59) rfl rfl ?_
    refine kJ (i:=8) (N:=none) (bm 9 511) rfl rfl (bL HT_.out (by kernel_rfl)) (by decide) (fun K hK=>?_)
    refine gF (by rfl) ?_
    refine oQ HW 4 6 (.slice a2o (n6+1) PD) (eC _ _ _ _ _ _ _ _ _ _ _) ([_]) ?_ (fP rfl)
    clear HW
    intro Fv HW
    (try simp only[List.set_cons_zero,List.set_cons_succ]at HW)
    refine hK.out _ _ ?_
    clear hK K
    refine fw (dM HT_.out (by kernel_rfl)) ?_
    clear HT_ HW_
    go_wp2_with (fail)
    go_meet
    exact⟨_,_,_,_,_,rfl,(show -1≤_∧_<_ from⟨by omega,by omega⟩),⟨LW.less HW.out.drop ⟨⟨⟨(HW.out.g.1.1.1.1.up (by omega)),HW.out.g.1.1.1.2⟩,HW.out.g.1.1.2⟩,(HW.out.g.2.mono (N':=(N+1)) (by omega))⟩ (Mon.and (Mon.and (Mon.and (Mon.et _ _ _ _ _ _ _ _ _) (Mon.hv _)) (Mon.ctv _ _ _)) (Mon.sl _ _ _))⟩⟩
   |false=>
    go_wp2_with (fail)
    go_meet
    exact⟨_,_,_,_,_,rfl,(show -1≤_∧_<_ from⟨by omega,by omega⟩),⟨LW.less HW.out ⟨⟨⟨(HW.out.g.1.1.up (by omega)),HW.out.g.1.2⟩,HW.out.g.2⟩,(HW.out.g.1.1.s6.mono (N':=(N+1)) (by omega))⟩ (Mon.and (Mon.and (Mon.and (Mon.et _ _ _ _ _ _ _ _ _) (Mon.hv _)) (Mon.ctv _ _ _)) (Mon.sl _ _ _))⟩⟩
  case rest=>
   obtain⟨Mq,A6q,n6q,c6q,kq,rfl,aOb,HC⟩:=hcut
   try clear HW
   have HW:=HC
   clear HC
   go_upto_region 6 with(fail)
   cases WC with
   |true=>
    by_cases c127:kq<0
    ·skip
     have a2w:=decide_eq_true c127
     go_wp2_with (first|((with_reducible refine aj (t:=4) (p:=89) rfl ?_);refine mP HW 3 10 (.bool true) (eC _ _ _ _ _ _ _ _ _ _ _) ([_]) ?_ (fP rfl);clear HW;intro apc HW;(try simp only[List.set_cons_zero,List.set_cons_succ]at HW))|((with_reducible refine gd 90 rfl ?_);refine lE HW 3 0 ?_)|((with_reducible refine aj (t:=31) (p:=4) rfl ?_);refine iA HW 1 ?_;clear HW;intro Sd HW;(try simp only[List.set_cons_zero,List.set_cons_succ]at HW)))
     refine bodyPost_ret (results_cell_row rfl _ _ g4 31 (eC _ _ _ _ _ _ _ _ _ _ _).toArray (0,0) _ rfl (HW.out.at 1 rfl) Tryz.underlying31 rfl (by kernel_rfl)) rfl ?_
     exact⟨_,_,rfl,HW.out.ts,⟨_,_,_,_,_,_,_,_,_,_,_,rfl,⟨HW.out.g.1.1.1.t1,HW.out.g.1.1.1.t3,HW.out.g.1.1.1.c5,(HW.out.g.2.mono (N':=(N+1)) (by omega)),(HW.out.g.1.1.1.s9.mono (N':=(N+1)) (by omega))⟩⟩⟩
    ·skip
     have a2w:=decide_eq_false c127
     have adj:=(show 0≤kq∧kq<(n6q:Int)from⟨by omega,by omega⟩)
     obtain⟨PW,apP,_,_⟩:=SL.has (HW.out.g.2) (by omega)
     subst apP
     obtain⟨s0_f1,s1_f1,u2_f1,s3_f1,s4_f1,s5_f1,s6_f1,u7_f1,s8_f1,s9_f1,s10_f1,s11_f1,hr_f1,hs_f1⟩:=HW.out.rd39 (HW.out.g.2) (i:=kq) (by omega) (by omega)
     obtain⟨A2_f1,n2_f1,d2_f1,A7_f1,n7_f1,d7_f1,yS,Cf⟩:=hs_f1.form
     subst yS Cf
     replace HW:=ah.mk (LW.fact (H:=Ih b (.slice A2_f1 n2_f1 d2_f1) s3_f1 s6_f1 (.slice A7_f1 n7_f1 d7_f1) s8_f1) HW.out hs_f1 (Mon.st _ _ _ _ _))
     clear hs_f1
     have pi_f1:=eq_true adj.1
     have qi_f1:=eq_true adj.2
     cases s9_f1 with
     |true=>
      have aOc:=hr_f1 9 _ rfl
      have aOd:=hr_f1 7 _ rfl
      have aOe:=HW.out.cell (v:=(.slice (some ⟨PW,0,none⟩) n6q c6q)) 3 6
      go_wp2_with (first|((with_reducible refine aj (t:=4) (p:=89) rfl ?_);refine mP HW 3 10 (.bool true) (eC _ _ _ _ _ _ _ _ _ _ _) ([_]) ?_ (fP rfl);clear HW;intro aac HW;(try simp only[List.set_cons_zero,List.set_cons_succ]at HW))|((with_reducible refine gd 90 rfl ?_);refine lE HW 3 0 ?_)|((with_reducible refine aj (t:=31) (p:=4) rfl ?_);refine iA HW 1 ?_;clear HW;intro a2A HW;(try simp only[List.set_cons_zero,List.set_cons_succ]at HW)))
      refine bodyPost_ret (results_cell_row rfl _ _ g4 31 (eC _ _ _ _ _ _ _ _ _ _ _).toArray (0,0) _ rfl (HW.out.at 1 rfl) Tryz.underlying31 rfl (by kernel_rfl)) rfl ?_
      exact⟨_,_,rfl,HW.out.ts,⟨_,_,_,_,_,_,_,_,_,_,_,rfl,⟨HW.out.g.1.1.1.1.t1,HW.out.g.1.1.1.1.t3,HW.out.g.1.1.1.1.c5,(HW.out.g.1.2.mono (N':=(N+1)) (by omega)),(HW.out.g.1.1.1.1.s9.mono (N':=(N+1)) (by omega))⟩⟩⟩
     |false=>
      by_cases KR:(n7_f1:Int)>0
      ·skip
       have WB:=decide_eq_true KR
       have aOf:=hr_f1 9 _ rfl
       have aOg:=hr_f1 7 _ rfl
       have aOh:=HW.out.cell (v:=(.slice (some ⟨PW,0,none⟩) n6q c6q)) 3 6
       have aOi:=HW.out.cell (v:=(.slice (some ⟨PW,0,none⟩) n6q c6q)) 3 6
       go_wp2_with (first|((with_reducible refine aj (t:=4) (p:=89) rfl ?_);refine mP HW 3 10 (.bool true) (eC _ _ _ _ _ _ _ _ _ _ _) ([_]) ?_ (fP rfl);clear HW;intro a9M HW;(try simp only[List.set_cons_zero,List.set_cons_succ]at HW))|((with_reducible refine gd 90 rfl ?_);refine lE HW 3 0 ?_)|((with_reducible refine aj (t:=31) (p:=4) rfl ?_);refine iA HW 1 ?_;clear HW;intro apQ HW;(try simp only[List.set_cons_zero,List.set_cons_succ]at HW)))
       refine bodyPost_ret (results_cell_row rfl _ _ g4 31 (eC _ _ _ _ _ _ _ _ _ _ _).toArray (0,0) _ rfl (HW.out.at 1 rfl) Tryz.underlying31 rfl (by kernel_rfl)) rfl ?_
       exact⟨_,_,rfl,HW.out.ts,⟨_,_,_,_,_,_,_,_,_,_,_,rfl,⟨HW.out.g.1.1.1.1.t1,HW.out.g.1.1.1.1.t3,HW.out.g.1.1.1.1.c5,(HW.out.g.1.2.mono (N':=(N+1)) (by omega)),(HW.out.g.1.1.1.1.s9.mono (N':=(N+1)) (by omega))⟩⟩⟩
      ·skip
       have WB:=decide_eq_false KR
       have aOj:=hr_f1 9 _ rfl
       have aOk:=hr_f1 7 _ rfl
       have aOl:=HW.out.cell (v:=(.slice (some ⟨PW,0,none⟩) n6q c6q)) 3 6
       have aOm:=HW.out.cell (v:=(.slice (some ⟨PW,0,none⟩) n6q c6q)) 3 6
       go_upto_if 88 with(fail)
       by_cases c148:(xX:Int)=0
       ·skip
        have apR:((xX:Int)==0)=true:=beq_iff_eq.mpr c148
        have apS:((xX:Int) != 0)=false:=bne_eq_false_iff_eq.mpr c148
        have aOn:=ah.mk c148
        clear c148
        go_wp2_with (first|((with_reducible refine aj (t:=4) (p:=89) rfl ?_);refine mP HW 3 10 (.bool true) (eC _ _ _ _ _ _ _ _ _ _ _) ([_]) ?_ (fP rfl);clear HW;intro a2C HW;(try simp only[List.set_cons_zero,List.set_cons_succ]at HW))|((with_reducible refine gd 90 rfl ?_);refine lE HW 3 0 ?_)|((with_reducible refine aj (t:=31) (p:=4) rfl ?_);refine iA HW 1 ?_;clear HW;intro aai HW;(try simp only[List.set_cons_zero,List.set_cons_succ]at HW)))
        refine bodyPost_ret (results_cell_row rfl _ _ g4 31 (eC _ _ _ _ _ _ _ _ _ _ _).toArray (0,0) _ rfl (HW.out.at 1 rfl) Tryz.underlying31 rfl (by kernel_rfl)) rfl ?_
        exact⟨_,_,rfl,HW.out.ts,⟨_,_,_,_,_,_,_,_,_,_,_,rfl,⟨HW.out.g.1.1.1.1.t1,HW.out.g.1.1.1.1.t3,HW.out.g.1.1.1.1.c5,(HW.out.g.1.2.mono (N':=(N+1)) (by omega)),(HW.out.g.1.1.1.1.s9.mono (N':=(N+1)) (by omega))⟩⟩⟩
       ·skip
        have apR:((xX:Int)==0)=false:=beq_eq_false_iff_ne.mpr c148
        have apS:((xX:Int) != 0)=true:=bne_iff_ne.mpr c148
        go_upto_region 10 with(first|((with_reducible refine gd 91 rfl ?_);refine uN HW 0 0 (tC _ _) Tryz.underlying25 ?_)|((with_reducible refine aj (t:=25) (p:=92) rfl ?_);refine mP HW 3 3 (.agg (tC _ _).toArray) (eC _ _ _ _ _ _ _ _ _ _ _) (tC _ _) ?_ (fP rfl);clear HW;intro a2D HW;(try simp only[List.set_cons_zero,List.set_cons_succ]at HW)))
        have Iu:=(show 0≤kq∧kq<(n6q:Int)from⟨by omega,by omega⟩)
        obtain⟨s0_g,s1_g,u2_g,s3_g,s4_g,s5_g,s6_g,u7_g,s8_g,s9_g,s10_g,s11_g,hr_g,hs_g⟩:=HW.out.rd39 (HW.out.g.1.2) (i:=kq) (by omega) (by omega)
        obtain⟨A2_g,n2_g,d2_g,A7_g,n7_g,d7_g,yS,Cf⟩:=hs_g.form
        subst yS Cf
        replace HW:=ah.mk (LW.fact (H:=Ih b (.slice A2_g n2_g d2_g) s3_g s6_g (.slice A7_g n7_g d7_g) s8_g) HW.out hs_g (Mon.st _ _ _ _ _))
        clear hs_g
        have Yt:=eq_true Iu.1
        have Yu:=eq_true Iu.2
        go_upto_if 101 with(first|((with_reducible refine gd 94 rfl ?_);refine lls HW 3 6 (.slice (some ⟨PW,0,none⟩) n6q c6q) Tryz.underlying26 ?_)|((with_reducible refine gd 97 rfl ?_);refine lrw (cs:=sC s0_g s1_g (.slice A2_g n2_g d2_g) s3_g s4_g s5_g s6_g (.slice A7_g n7_g d7_g) s8_g s9_g s10_g s11_g) hr_g Tryz.underlying39 ?_)|((with_reducible refine gd 9 rfl ?_);refine lbx (N:=9) (t:=39) HW zS ?_;clear HW;intro g9 a9S HW)|((with_reducible refine aj (t:=39) (p:=9) rfl ?_);refine iA HW 0 ?_;clear HW;intro ahx HW;(try simp only[List.set_cons_zero,List.set_cons_succ]at HW))|((with_reducible refine aj (t:=23) (p:=99) rfl ?_);refine mP HW 0 7 (.slice PU xX PV) (sC _ _ _ _ _ _ _ _ _ _ _ _) ([_]) ?_ (fP rfl);clear HW;intro ah4 HW;(try simp only[List.set_cons_zero,List.set_cons_succ]at HW))|((with_reducible refine gd 101 rfl ?_);refine lls HW 3 1 (.bool f1) Tryz.underlying4 ?_))
        cases f1 with
        |true=>
         go_wp2_with (first|((with_reducible refine gd 102 rfl ?_);refine lE HW 4 0 ?_)|((with_reducible refine gd 103 rfl ?_);refine lS HW 0 0 ?_)|((with_reducible refine gq 107 rfl ?_);refine gl (some 104) Tryz.func107 #[(.agg (eC _ _ _ _ _ _ _ _ _ _ _).toArray),(.agg (sC _ _ _ _ _ _ _ _ _ _ _ _).toArray)] ?_;with_reducible refine(Fy HW.out.ts.tw (HW.out.hb hb0) (N:=(N+1)) (C:=C) ⟨HW.out.g.1.1.1.1.1.t1,(HW.out.g.1.1.1.2 rfl),HW.out.g.1.1.1.1.1.c5,(HW.out.g.1.1.2.mono (N':=(N+1)) (by omega)),(HW.out.g.1.1.1.1.1.s9.mono (N':=(N+1)) (by omega))⟩ (by omega) ⟨HW.out.g.2.h2,HW.out.g.1.1.1.1.2,HW.out.g.2.s0,HW.out.g.2.s1,HW.out.g.2.s3,HW.out.g.2.s8⟩).mono ?_;rintro e aFl h_;obtain⟨E_,M_157,rfl,gQ,hE_⟩:=h_.out;refine⟨_,rfl,?_⟩;obtain⟨aFm,aFn,u2_,ahy,aFo,aFp,ahz,u7_,ahA,aFq,azp,azq,rfl,hF_⟩:=hE_.out;clear hE_;obtain⟨ahB,ahC,ahD,ahE,ahF,ahG,yS,Cf⟩:=hF_.form;subst yS Cf;replace HW:=ah.mk ((HW.out.call gQ).st hF_);clear gQ hF_)|((with_reducible refine aj (t:=39) (p:=9) rfl ?_);refine iA HW 0 ?_;clear HW;intro apu HW;(try simp only[List.set_cons_zero,List.set_cons_succ]at HW))|((with_reducible refine gd 106 rfl ?_);refine lls HW 4 6 (.slice (some ⟨PW,0,none⟩) n6q c6q) Tryz.underlying26 ?_)|((with_reducible refine gd 108 rfl ?_);refine lS HW 0 0 ?_)|((with_reducible refine aj (t:=39) (p:=109) rfl ?_);have hS_:ST b _ (.slice ahB ahC ahD) ahy ahz (.slice ahE ahF ahG) ahA:=HW.out.g.2;refine Yr HW (HW.out.g.1.1.1.2) Iu.1 Iu.2 hS_ ?_;clear HW;intro aSp HW;(try simp only[List.set_cons_zero,List.set_cons_succ]at HW);clear hS_)|((with_reducible refine gd 110 rfl ?_);refine lE HW 4 0 ?_)|((with_reducible refine aj (t:=31) (p:=4) rfl ?_);refine iA HW 2 ?_;clear HW;intro aSq HW;(try simp only[List.set_cons_zero,List.set_cons_succ]at HW)))
         refine bodyPost_ret (results_cell_row rfl _ _ g4 31 (eC _ _ _ _ _ _ _ _ _ _ _).toArray (0,0) _ rfl (HW.out.at 2 rfl) Tryz.underlying31 rfl (by kernel_rfl)) rfl ?_
         exact⟨_,_,rfl,HW.out.ts,⟨_,_,_,_,_,_,_,_,_,_,_,rfl,⟨HW.out.g.1.1.1.1.1.1.t1,(HW.out.g.1.1.1.1.2 rfl),HW.out.g.1.1.1.1.1.1.c5,(HW.out.g.1.1.1.2.mono (N':=(N+1)) (by omega)),(HW.out.g.1.1.1.1.1.1.s9.mono (N':=(N+1)) (by omega))⟩⟩⟩
        |false=>
         go_wp2_with (first|((with_reducible refine gd 106 rfl ?_);refine lls HW 4 6 (.slice (some ⟨PW,0,none⟩) n6q c6q) Tryz.underlying26 ?_)|((with_reducible refine gd 108 rfl ?_);refine lS HW 0 0 ?_)|((with_reducible refine aj (t:=39) (p:=109) rfl ?_);have hS_:ST b _ (.slice A2_g n2_g d2_g) s3_g s6_g (.slice PU xX PV) s8_g:=⟨HW.out.g.2.h2,HW.out.g.1.1.1.1.2,HW.out.g.2.s0,HW.out.g.2.s1,HW.out.g.2.s3,HW.out.g.2.s8⟩;refine Yr HW (HW.out.g.1.1.2) Iu.1 Iu.2 hS_ ?_;clear HW;intro aEA HW;(try simp only[List.set_cons_zero,List.set_cons_succ]at HW);clear hS_)|((with_reducible refine gd 110 rfl ?_);refine lE HW 4 0 ?_)|((with_reducible refine aj (t:=31) (p:=4) rfl ?_);refine iA HW 2 ?_;clear HW;intro aSr HW;(try simp only[List.set_cons_zero,List.set_cons_succ]at HW)))
         refine bodyPost_ret (results_cell_row rfl _ _ g4 31 (eC _ _ _ _ _ _ _ _ _ _ _).toArray (0,0) _ rfl (HW.out.at 2 rfl) Tryz.underlying31 rfl (by kernel_rfl)) rfl ?_
         exact⟨_,_,rfl,HW.out.ts,⟨_,_,_,_,_,_,_,_,_,_,_,rfl,⟨HW.out.g.1.1.1.1.1.t1,(HW.out.g.1.1.1.2 rfl),HW.out.g.1.1.1.1.1.c5,(HW.out.g.1.1.2.mono (N':=(N+1)) (by omega)),(HW.out.g.1.1.1.1.1.s9.mono (N':=(N+1)) (by omega))⟩⟩⟩
   |false=>
    go_wp2_with (first|((with_reducible refine aj (t:=4) (p:=89) rfl ?_);refine mP HW 3 10 (.bool true) (eC _ _ _ _ _ _ _ _ _ _ _) ([_]) ?_ (fP rfl);clear HW;intro aEB HW;(try simp only[List.set_cons_zero,List.set_cons_succ]at HW))|((with_reducible refine gd 90 rfl ?_);refine lE HW 3 0 ?_)|((with_reducible refine aj (t:=31) (p:=4) rfl ?_);refine iA HW 1 ?_;clear HW;intro aSs HW;(try simp only[List.set_cons_zero,List.set_cons_succ]at HW)))
    refine bodyPost_ret (results_cell_row rfl _ _ g4 31 (eC _ _ _ _ _ _ _ _ _ _ _).toArray (0,0) _ rfl (HW.out.at 1 rfl) Tryz.underlying31 rfl (by kernel_rfl)) rfl ?_
    exact⟨_,_,rfl,HW.out.ts,⟨_,_,_,_,_,_,_,_,_,_,_,rfl,⟨HW.out.g.1.1.1.t1,HW.out.g.1.1.1.t3,HW.out.g.1.1.1.c5,(HW.out.g.2.mono (N':=(N+1)) (by omega)),(HW.out.g.1.1.1.s9.mono (N':=(N+1)) (by omega))⟩⟩⟩
def iy.T3:Bool×List (List Nat×List Nat):=(true,[([],[]),([0],[0]),([1],[1]),([2],[2]),([3,2],[2,3]),([2],[2]),([4,5,2],[2,4,5]),([6,2],[2,6]),([7,2],[2,7]),([2,8],[2,8]),([9,2],[9]),([10],[10]),([11,10],[10,11]),([10],[10]),([12,13,10],[10,12,13]),([14,10],[10,14]),([15,10],[10,15]),([16,10],[10,16]),([17,10],[10,17]),([10,18],[10,18]),([19,10],[19]),([20],[20]),([20],[20]),([22,20],[20,22]),([23,20],[20,23]),([21,24,20],[20,21,24]),([20,25],[20,25]),([26,20],[26]),([27],[27]),([27],[27]),([29,27],[27,29]),([27],[27]),([30,31,27],[27,30,31]),([32,27],[27,32]),([33,27],[27,33]),([34,27],[27,34]),([28,35,27],[27,28,35]),([27,36],[27,36]),([37,27],[37]),([38],[38]),([39,38],[38,39]),([38],[38]),([40,41,38],[38,40,41]),([42,38],[38,42]),([43,38],[38,43]),([38],[38]),([45,38],[38,45]),([44,46,38],[38,44,46]),([47,38,38],[38,47]),([48,38],[38,48]),([38,49],[38,49])])
def iy.B3:List Nat:=[0,1,3,7,15,7,63,127,255,511,1023,2047,4095,2047,16383,32767,65535,131071,262143,524287,1048575,2097151,2097151,6291455,14680063,33554431,67108863,134217727,268435455,268435455,805306367,268435455,4026531839,8321499135,16911433727,34091302911,68719476735,137438953471,274877906943,549755813887,1099511627775,549755813887,4398046511103,8796093022207,17592186044415,549755813887,35734127902719,140737488355327,281474976710655,562949953421311,1125899906842623]
theorem iy.tab3:jm .any (opsOf Tryz.f100 3)=iy.T3:=by kernel_rfl
theorem iy.bits3:fQ iy.T3.2 iy.B3=true:=by kernel_rfl
def iy.T11:Bool×List (List Nat×List Nat):=(true,[([],[]),([0],[0]),([],[]),([2],[2]),([3],[3]),([],[]),([5],[5]),([],[]),([7,3],[7]),([6,8],[6,8]),([4,9],[4,9]),([1,10,8],[1,10]),([0,1,2,3,4,5,6,7,8,9,10,11],[]),([12,11,11,0,1,2,3,4,5,6,7,8,9,10,11],[11,12])])
def iy.B11:List Nat:=[0,1,0,4,12,0,32,0,140,492,1020,2047,4095,8191]
theorem iy.tab11:jm .any (opsOf Tryz.f100 11)=iy.T11:=by kernel_rfl
theorem iy.bits11:fQ iy.T11.2 iy.B11=true:=by kernel_rfl
theorem Sw{b N C:Nat}{w:World}{M:Nat→Nat→Prop}{x0:Bool}{v1:Value}{x2:Int}{v3:Value}{x4:Int}{x5:ByteArray}{v6:Value}{x7 x8:Int}{v9:Value}{x10:Bool}{f0:Int}{f1:Bool}{f2:Int}{f3:ByteArray}(hw:TW b M w)(hb0:b≤w.heap.size)(E:ET b M w N C v1 x2 v3 x4 x5 v6 v9)(hN:N≤3000000)(hf:f3.size≤700):Calls Tryz.prog 100 #[.agg (eC x0 v1 x2 v3 x4 x5 v6 x7 x8 v9 x10).toArray,.agg (fC f0 f1 f2 f3).toArray] w (EPost b M w (N+2) C):=by
 obtain⟨A1,n1,c1,A3,n3,c3,A6,n6,c6,A9,n9,c9,rfl,rfl,rfl,rfl,Qg,Qh⟩:=E.form4
 have HW:ah (LW b NX M w [] (xw b N C (.slice A1 n1 c1) x2 (.slice A3 n3 c3) x4 x5 (.slice A6 n6 c6) (.slice A9 n9 c9)) M w):=⟨LW.start hw E (Mon.et _ _ _ _ _ _ _ _ _)⟩
 clear hw E
 go_enter Tryz.func100,Tryz.ntmps100
 go_upto_region 3 with(first|((with_reducible refine gd 2 rfl ?_);refine lbx (N:=2) (t:=31) HW (eC x0 (.slice A1 n1 c1) x2 (.slice A3 n3 c3) x4 x5 (.slice A6 n6 c6) x7 x8 (.slice A9 n9 c9) x10) ?_;clear HW;intro g2 pF HW)|((with_reducible refine gd 3 rfl ?_);refine lbx (N:=3) (t:=42) HW (fC f0 f1 f2 f3) ?_;clear HW;intro g3 xG HW)|((with_reducible refine gd 4 rfl ?_);refine lbx (N:=4) (t:=31) HW zE ?_;clear HW;intro g4 AX HW)|((with_reducible refine gd 8 rfl ?_);refine lE HW 2 0 ?_)|((with_reducible refine gd 10 rfl ?_);refine lls HW 1 2 (.int .i64 f2) Tryz.underlying3 ?_)|((with_reducible refine gq 49 rfl ?_);refine gl (some 11) Tryz.func49 #[(.agg (eC _ _ _ _ _ _ _ _ _ _ _).toArray),(.int .i64 f2)] ?_;with_reducible refine(Ig f2 HW.out.ts.tw (N:=N) (C:=C) (HW.out.g.up (by omega)) (by omega)).mono ?_;rintro e xH ⟨KS,rfl,aFr,aFs,hb⟩;refine⟨_,rfl,?_⟩;replace HW:=ah.mk (HW.out.quiet hb);clear hb)|((with_reducible refine gd 13 rfl ?_);refine lls HW 1 3 (.string f3) Tryz.underlying9 ?_))
 by_cases yP:KS<0
 ·skip
  have PX:=decide_eq_true yP
  refine nA HW (fun _=>True) [48] 51 (trivial) (fun vZ HN hHeld=>?_)
  replace HW:=HN
  clear HN
  refine bR iy.tab3 iy.bits3 (fun HT_ HW_=>?_)
  refine pw 0 (some 15) rfl rfl ?_
  refine pw 1 (some 16) rfl rfl ?_
  refine pw 2 (some 17) rfl rfl ?_
  refine pn 3 (some 18) rfl rfl ?_
  refine pn 4 (some 19) rfl rfl ?_
  refine pn 5 (some 20) rfl rfl ?_
  refine pn 6 (some 21) rfl rfl ?_
  refine pn 7 (some 22) rfl rfl ?_
  refine pn 8 (some 23) rfl rfl ?_
  refine pw 9 (some 24) rfl rfl ?_
  refine pw 10 (some 25) rfl rfl ?_
  refine pn 11 (some 26) rfl rfl ?_
  refine pn 12 (some 27) rfl rfl ?_
  refine pn 13 (some 28) rfl rfl ?_
  refine pn 14 (some 29) rfl rfl ?_
  refine pn 15 (some 30) rfl rfl ?_
  refine pn 16 (some 31) rfl rfl ?_
  refine pn 17 (some 32) rfl rfl ?_
  refine pn 18 (some 33) rfl rfl ?_
  refine pw 19 (some 34) rfl rfl ?_
  refine pw 20 (some 35) rfl rfl ?_
  refine pn 21 (some 36) rfl rfl ?_
  refine pn 22 (some 37) rfl rfl ?_
  refine pn 23 (some 38) rfl rfl ?_
  refine pn 24 (some 39) rfl rfl ?_
  refine pn 25 (some 40) rfl rfl ?_
  refine pw 26 (some 41) rfl rfl ?_
  refine pw 27 (some 42) rfl rfl ?_
  refine pn 28 (some 43) rfl rfl ?_
  refine pn 29 (some 44) rfl rfl ?_
  refine pn 30 (some 45) rfl rfl ?_
  refine pn 31 (some 46) rfl rfl ?_
  refine pn 32 (some 47) rfl rfl ?_
  refine pn 33 (some 48) rfl rfl ?_
  refine pn 34 (some 49) rfl rfl ?_
  refine pn 35 (some 50) rfl rfl ?_
  refine pn 36 (some 51) rfl rfl ?_
  refine pw 37 (some 52) rfl rfl ?_
  refine pw 38 (some 53) rfl rfl ?_
  refine pn 39 (some 54) rfl rfl ?_
  refine pn 40 (some 55) rfl rfl ?_
  refine pn 41 (some 56) rfl rfl ?_
  refine pn 42 (some 57) rfl rfl ?_
  refine pn 43 (some 58) rfl rfl ?_
  refine pn 44 (some 59) rfl rfl ?_
  refine pn 45 (some 60) rfl rfl ?_
  refine pn 46 (some 61) rfl rfl ?_
  refine pn 47 (some 62) rfl rfl ?_
  refine pn 48 (some 63) rfl rfl ?_
  refine pn 49 (some 64) rfl rfl ?_
  refine pw 50 (some 65) rfl rfl ?_
  refine fw (dM HT_.out (by kernel_rfl)) ?_
  clear HT_ HW_
  go_wp2_with (first|((with_reducible refine aj (t:=4) (p:=66) rfl ?_);refine mP HW 2 10 (.bool true) (eC _ _ _ _ _ _ _ _ _ _ _) ([_]) ?_ (fP rfl);clear HW;intro AU HW;(try simp only[List.set_cons_zero,List.set_cons_succ]at HW))|((with_reducible refine gd 67 rfl ?_);refine lE HW 2 0 ?_)|((with_reducible refine aj (t:=31) (p:=4) rfl ?_);refine iA HW 0 ?_;clear HW;intro AQ HW;(try simp only[List.set_cons_zero,List.set_cons_succ]at HW)))
  refine bodyPost_ret (results_cell_row rfl _ _ g4 31 (eC _ _ _ _ _ _ _ _ _ _ _).toArray (0,0) _ rfl (HW.out.at 0 rfl) Tryz.underlying31 rfl (by kernel_rfl)) rfl ?_
  exact⟨_,_,rfl,HW.out.ts,⟨_,_,_,_,_,_,_,_,_,_,_,rfl,(HW.out.g.up (by omega))⟩⟩
 ·skip
  have PX:=decide_eq_false yP
  have AZ:=(show 0≤KS∧KS<(n6:Int)from⟨by omega,by omega⟩)
  obtain⟨qV,apT,_,_⟩:=SL.has (HW.out.g.s6) (by omega)
  subst apT
  obtain⟨s0_e1,s1_e1,u2_e1,s3_e1,s4_e1,s5_e1,s6_e1,u7_e1,s8_e1,s9_e1,s10_e1,s11_e1,hr_e1,hs_e1⟩:=HW.out.rd39 (HW.out.g.s6) (i:=KS) (by omega) (by omega)
  obtain⟨A2_e1,n2_e1,d2_e1,A7_e1,n7_e1,d7_e1,yS,Cf⟩:=hs_e1.form
  subst yS Cf
  replace HW:=ah.mk (LW.fact (H:=Ih b (.slice A2_e1 n2_e1 d2_e1) s3_e1 s6_e1 (.slice A7_e1 n7_e1 d7_e1) s8_e1) HW.out hs_e1 (Mon.st _ _ _ _ _))
  clear hs_e1
  have pi_e1:=eq_true AZ.1
  have qi_e1:=eq_true AZ.2
  have aaj:(s8_e1++f3).size≤1000000:=by rw[bf];have:=HW.out.g.2.s8;omega
  have Sy:(9223372036854775807<s8_e1.size+f3.size)=False:=eq_false (by rw[bf]at aaj;omega)
  cases s9_e1 with
  |true=>
   refine nA HW (fun W=>W.rangeAt qV (KS.toNat*12) (sC s0_e1 s1_e1 (.slice A2_e1 n2_e1 d2_e1) s3_e1 s4_e1 s5_e1 s6_e1 (.slice A7_e1 n7_e1 d7_e1) s8_e1 true s10_e1 s11_e1)) [48] 51 (hr_e1) (fun Cb HN hHeld=>?_)
   replace HW:=HN
   clear HN
   refine bR iy.tab3 iy.bits3 (fun HT_ HW_=>?_)
   refine pw 0 (some 15) rfl rfl ?_
   refine pw 1 (some 16) rfl rfl ?_
   refine pw 2 (some 17) rfl rfl ?_
   refine pw 3 (some 18) rfl rfl ?_
   refine tk 4 (some 19) (bm 51 31) rfl rfl hHeld ?_ (hy:=jQ _ 2 6 (.slice (some ⟨qV,0,none⟩) n6 c6) Tryz.underlying26)
   refine pw 5 (some 20) rfl rfl ?_
   refine pw 6 (some 21) rfl rfl ?_
   refine pw 7 (some 22) rfl rfl ?_
   refine tk 8 (some 23) (bm 51 511) rfl rfl hHeld ?_ (hy:=CS (.bool true) (fun W h=>((fun W h=>h)) W h 9 _ rfl) Tryz.underlying4)
   refine pw 9 (some 24) rfl rfl ?_
   refine pw 10 (some 25) rfl rfl ?_
   refine pn 11 (some 26) rfl rfl ?_
   refine pn 12 (some 27) rfl rfl ?_
   refine pn 13 (some 28) rfl rfl ?_
   refine pn 14 (some 29) rfl rfl ?_
   refine pn 15 (some 30) rfl rfl ?_
   refine pn 16 (some 31) rfl rfl ?_
   refine pn 17 (some 32) rfl rfl ?_
   refine pn 18 (some 33) rfl rfl ?_
   refine pw 19 (some 34) rfl rfl ?_
   refine pw 20 (some 35) rfl rfl ?_
   refine pn 21 (some 36) rfl rfl ?_
   refine pn 22 (some 37) rfl rfl ?_
   refine pn 23 (some 38) rfl rfl ?_
   refine pn 24 (some 39) rfl rfl ?_
   refine pn 25 (some 40) rfl rfl ?_
   refine pw 26 (some 41) rfl rfl ?_
   refine pw 27 (some 42) rfl rfl ?_
   refine pn 28 (some 43) rfl rfl ?_
   refine pn 29 (some 44) rfl rfl ?_
   refine pn 30 (some 45) rfl rfl ?_
   refine pn 31 (some 46) rfl rfl ?_
   refine pn 32 (some 47) rfl rfl ?_
   refine pn 33 (some 48) rfl rfl ?_
   refine pn 34 (some 49) rfl rfl ?_
   refine pn 35 (some 50) rfl rfl ?_
   refine pn 36 (some 51) rfl rfl ?_
   refine pw 37 (some 52) rfl rfl ?_
   refine pw 38 (some 53) rfl rfl ?_
   refine pn 39 (some 54) rfl rfl ?_
   refine pn 40 (some 55) rfl rfl ?_
   refine pn 41 (some 56) rfl rfl ?_
   refine pn 42 (some 57) rfl rfl ?_
   refine pn 43 (some 58) rfl rfl ?_
   refine pn 44 (some 59) rfl rfl ?_
   refine pn 45 (some 60) rfl rfl ?_
   refine pn 46 (some 61) rfl rfl ?_
   refine pn 47 (some 62) rfl rfl ?_
   refine pn 48 (some 63) rfl rfl ?_
   refine pn 49 (some 64) rfl rfl ?_
   refine pw 50 (some 65) rfl rfl ?_
   refine fw (dM HT_.out (by kernel_rfl)) ?_
   clear HT_ HW_
   go_wp2_with (first|((with_reducible refine aj (t:=4) (p:=66) rfl ?_);refine mP HW 2 10 (.bool true) (eC _ _ _ _ _ _ _ _ _ _ _) ([_]) ?_ (fP rfl);clear HW;intro AV HW;(try simp only[List.set_cons_zero,List.set_cons_succ]at HW))|((with_reducible refine gd 67 rfl ?_);refine lE HW 2 0 ?_)|((with_reducible refine aj (t:=31) (p:=4) rfl ?_);refine iA HW 0 ?_;clear HW;intro Dh HW;(try simp only[List.set_cons_zero,List.set_cons_succ]at HW)))
   refine bodyPost_ret (results_cell_row rfl _ _ g4 31 (eC _ _ _ _ _ _ _ _ _ _ _).toArray (0,0) _ rfl (HW.out.at 0 rfl) Tryz.underlying31 rfl (by kernel_rfl)) rfl ?_
   exact⟨_,_,rfl,HW.out.ts,⟨_,_,_,_,_,_,_,_,_,_,_,rfl,(HW.out.g.1.up (by omega))⟩⟩
  |false=>
   by_cases Cg:(n7_e1:Int)=0
   ·skip
    have a2F:((n7_e1:Int)==0)=true:=beq_iff_eq.mpr Cg
    have a2G:((n7_e1:Int) != 0)=false:=bne_eq_false_iff_eq.mpr Cg
    have apU:=ah.mk Cg
    clear Cg
    refine nA HW (fun W=>W.rangeAt qV (KS.toNat*12) (sC s0_e1 s1_e1 (.slice A2_e1 n2_e1 d2_e1) s3_e1 s4_e1 s5_e1 s6_e1 (.slice A7_e1 n7_e1 d7_e1) s8_e1 false s10_e1 s11_e1)) [48] 51 (hr_e1) (fun yO HN hHeld=>?_)
    replace HW:=HN
    clear HN
    refine bR iy.tab3 iy.bits3 (fun HT_ HW_=>?_)
    refine pw 0 (some 15) rfl rfl ?_
    refine pw 1 (some 16) rfl rfl ?_
    refine pw 2 (some 17) rfl rfl ?_
    refine pw 3 (some 18) rfl rfl ?_
    refine tk 4 (some 19) (bm 51 31) rfl rfl hHeld ?_ (hy:=jQ _ 2 6 (.slice (some ⟨qV,0,none⟩) n6 c6) Tryz.underlying26)
    refine pw 5 (some 20) rfl rfl ?_
    refine pw 6 (some 21) rfl rfl ?_
    refine pw 7 (some 22) rfl rfl ?_
    refine tk 8 (some 23) (bm 51 511) rfl rfl hHeld ?_ (hy:=CS (.bool false) (fun W h=>((fun W h=>h)) W h 9 _ rfl) Tryz.underlying4)
    refine pw 9 (some 24) rfl rfl ?_
    refine pw 10 (some 25) rfl rfl ?_
    refine pw 11 (some 26) rfl rfl ?_
    refine tk 12 (some 27) (bm 51 8191) rfl rfl hHeld ?_ (hy:=jQ _ 2 6 (.slice (some ⟨qV,0,none⟩) n6 c6) Tryz.underlying26)
    refine pw 13 (some 28) rfl rfl ?_
    refine pw 14 (some 29) rfl rfl ?_
    refine pw 15 (some 30) rfl rfl ?_
    refine tk 16 (some 31) (bm 51 131071) rfl rfl hHeld ?_ (hy:=CS (.slice A7_e1 n7_e1 d7_e1) (fun W h=>((fun W h=>h)) W h 7 _ rfl) Tryz.underlying23)
    refine pw 17 (some 32) rfl rfl ?_
    refine pw 18 (some 33) rfl rfl ?_
    refine pw 19 (some 34) rfl rfl ?_
    refine pw 20 (some 35) rfl rfl ?_
    refine pn 21 (some 36) rfl rfl ?_
    refine pn 22 (some 37) rfl rfl ?_
    refine pn 23 (some 38) rfl rfl ?_
    refine pn 24 (some 39) rfl rfl ?_
    refine pn 25 (some 40) rfl rfl ?_
    refine pw 26 (some 41) rfl rfl ?_
    refine pw 27 (some 42) rfl rfl ?_
    refine pn 28 (some 43) rfl rfl ?_
    refine pn 29 (some 44) rfl rfl ?_
    refine pn 30 (some 45) rfl rfl ?_
    refine pn 31 (some 46) rfl rfl ?_
    refine pn 32 (some 47) rfl rfl ?_
    refine pn 33 (some 48) rfl rfl ?_
    refine pn 34 (some 49) rfl rfl ?_
    refine pn 35 (some 50) rfl rfl ?_
    refine pn 36 (some 51) rfl rfl ?_
    refine pw 37 (some 52) rfl rfl ?_
    refine pw 38 (some 53) rfl rfl ?_
    refine pn 39 (some 54) rfl rfl ?_
    refine pn 40 (some 55) rfl rfl ?_
    refine pn 41 (some 56) rfl rfl ?_
    refine pn 42 (some 57) rfl rfl ?_
    refine pn 43 (some 58) rfl rfl ?_
    refine pn 44 (some 59) rfl rfl ?_
    refine pn 45 (some 60) rfl rfl ?_
    refine pn 46 (some 61) rfl rfl ?_
    refine pn 47 (some 62) rfl rfl ?_
    refine pn 48 (some 63) rfl rfl ?_
    refine pn 49 (some 64) rfl rfl ?_
    refine pw 50 (some 65) rfl rfl ?_
    refine fw (dM HT_.out (by kernel_rfl)) ?_
    clear HT_ HW_
    go_wp2_with (first|((with_reducible refine aj (t:=4) (p:=66) rfl ?_);refine mP HW 2 10 (.bool true) (eC _ _ _ _ _ _ _ _ _ _ _) ([_]) ?_ (fP rfl);clear HW;intro yL HW;(try simp only[List.set_cons_zero,List.set_cons_succ]at HW))|((with_reducible refine gd 67 rfl ?_);refine lE HW 2 0 ?_)|((with_reducible refine aj (t:=31) (p:=4) rfl ?_);refine iA HW 0 ?_;clear HW;intro yM HW;(try simp only[List.set_cons_zero,List.set_cons_succ]at HW)))
    refine bodyPost_ret (results_cell_row rfl _ _ g4 31 (eC _ _ _ _ _ _ _ _ _ _ _).toArray (0,0) _ rfl (HW.out.at 0 rfl) Tryz.underlying31 rfl (by kernel_rfl)) rfl ?_
    exact⟨_,_,rfl,HW.out.ts,⟨_,_,_,_,_,_,_,_,_,_,_,rfl,(HW.out.g.1.up (by omega))⟩⟩
   ·skip
    have a2F:((n7_e1:Int)==0)=false:=beq_eq_false_iff_ne.mpr Cg
    have a2G:((n7_e1:Int) != 0)=true:=bne_iff_ne.mpr Cg
    by_cases c119:(f3.size:Int)>x8
    ·skip
     have WG:=decide_eq_true c119
     refine nA HW (fun W=>W.rangeAt qV (KS.toNat*12) (sC s0_e1 s1_e1 (.slice A2_e1 n2_e1 d2_e1) s3_e1 s4_e1 s5_e1 s6_e1 (.slice A7_e1 n7_e1 d7_e1) s8_e1 false s10_e1 s11_e1)) [48] 51 (hr_e1) (fun Cc HN hHeld=>?_)
     replace HW:=HN
     clear HN
     refine bR iy.tab3 iy.bits3 (fun HT_ HW_=>?_)
     refine pw 0 (some 15) rfl rfl ?_
     refine pw 1 (some 16) rfl rfl ?_
     refine pw 2 (some 17) rfl rfl ?_
     refine pw 3 (some 18) rfl rfl ?_
     refine tk 4 (some 19) (bm 51 31) rfl rfl hHeld ?_ (hy:=jQ _ 2 6 (.slice (some ⟨qV,0,none⟩) n6 c6) Tryz.underlying26)
     refine pw 5 (some 20) rfl rfl ?_
     refine pw 6 (some 21) rfl rfl ?_
     refine pw 7 (some 22) rfl rfl ?_
     refine tk 8 (some 23) (bm 51 511) rfl rfl hHeld ?_ (hy:=CS (.bool false) (fun W h=>((fun W h=>h)) W h 9 _ rfl) Tryz.underlying4)
     refine pw 9 (some 24) rfl rfl ?_
     refine pw 10 (some 25) rfl rfl ?_
     refine pw 11 (some 26) rfl rfl ?_
     refine tk 12 (some 27) (bm 51 8191) rfl rfl hHeld ?_ (hy:=jQ _ 2 6 (.slice (some ⟨qV,0,none⟩) n6 c6) Tryz.underlying26)
     refine pw 13 (some 28) rfl rfl ?_
     refine pw 14 (some 29) rfl rfl ?_
     refine pw 15 (some 30) rfl rfl ?_
     refine tk 16 (some 31) (bm 51 131071) rfl rfl hHeld ?_ (hy:=CS (.slice A7_e1 n7_e1 d7_e1) (fun W h=>((fun W h=>h)) W h 7 _ rfl) Tryz.underlying23)
     refine pw 17 (some 32) rfl rfl ?_
     refine pw 18 (some 33) rfl rfl ?_
     refine pw 19 (some 34) rfl rfl ?_
     refine pw 20 (some 35) rfl rfl ?_
     refine pw 21 (some 36) rfl rfl ?_
     refine pw 22 (some 37) rfl rfl ?_
     refine pw 23 (some 38) rfl rfl ?_
     refine tk 24 (some 39) (bm 51 33554431) rfl rfl hHeld ?_ (hy:=jQ _ 2 8 (.int .i64 x8) Tryz.underlying3)
     refine pw 25 (some 40) rfl rfl ?_
     refine pw 26 (some 41) rfl rfl ?_
     refine pw 27 (some 42) rfl rfl ?_
     refine pn 28 (some 43) rfl rfl ?_
     refine pn 29 (some 44) rfl rfl ?_
     refine pn 30 (some 45) rfl rfl ?_
     refine pn 31 (some 46) rfl rfl ?_
     refine pn 32 (some 47) rfl rfl ?_
     refine pn 33 (some 48) rfl rfl ?_
     refine pn 34 (some 49) rfl rfl ?_
     refine pn 35 (some 50) rfl rfl ?_
     refine pn 36 (some 51) rfl rfl ?_
     refine pw 37 (some 52) rfl rfl ?_
     refine pw 38 (some 53) rfl rfl ?_
     refine pn 39 (some 54) rfl rfl ?_
     refine pn 40 (some 55) rfl rfl ?_
     refine pn 41 (some 56) rfl rfl ?_
     refine pn 42 (some 57) rfl rfl ?_
     refine pn 43 (some 58) rfl rfl ?_
     refine pn 44 (some 59) rfl rfl ?_
     refine pn 45 (some 60) rfl rfl ?_
     refine pn 46 (some 61) rfl rfl ?_
     refine pn 47 (some 62) rfl rfl ?_
     refine pn 48 (some 63) rfl rfl ?_
     refine pn 49 (some 64) rfl rfl ?_
     refine pw 50 (some 65) rfl rfl ?_
     refine fw (dM HT_.out (by kernel_rfl)) ?_
     clear HT_ HW_
     go_wp2_with (first|((with_reducible refine aj (t:=4) (p:=66) rfl ?_);refine mP HW 2 10 (.bool true) (eC _ _ _ _ _ _ _ _ _ _ _) ([_]) ?_ (fP rfl);clear HW;intro yN HW;(try simp only[List.set_cons_zero,List.set_cons_succ]at HW))|((with_reducible refine gd 67 rfl ?_);refine lE HW 2 0 ?_)|((with_reducible refine aj (t:=31) (p:=4) rfl ?_);refine iA HW 0 ?_;clear HW;intro AR HW;(try simp only[List.set_cons_zero,List.set_cons_succ]at HW)))
     refine bodyPost_ret (results_cell_row rfl _ _ g4 31 (eC _ _ _ _ _ _ _ _ _ _ _).toArray (0,0) _ rfl (HW.out.at 0 rfl) Tryz.underlying31 rfl (by kernel_rfl)) rfl ?_
     exact⟨_,_,rfl,HW.out.ts,⟨_,_,_,_,_,_,_,_,_,_,_,rfl,(HW.out.g.1.up (by omega))⟩⟩
    ·skip
     have WG:=decide_eq_false c119
     by_cases PD:(f3.size:Int)>s11_e1
     ·skip
      have apV:=decide_eq_true PD
      refine nA HW (fun W=>W.rangeAt qV (KS.toNat*12) (sC s0_e1 s1_e1 (.slice A2_e1 n2_e1 d2_e1) s3_e1 s4_e1 s5_e1 s6_e1 (.slice A7_e1 n7_e1 d7_e1) s8_e1 false s10_e1 s11_e1)) [48] 51 (hr_e1) (fun Fv HN hHeld=>?_)
      replace HW:=HN
      clear HN
      refine bR iy.tab3 iy.bits3 (fun HT_ HW_=>?_)
      refine pw 0 (some 15) rfl rfl ?_
      refine pw 1 (some 16) rfl rfl ?_
      refine pw 2 (some 17) rfl rfl ?_
      refine pw 3 (some 18) rfl rfl ?_
      refine tk 4 (some 19) (bm 51 31) rfl rfl hHeld ?_ (hy:=jQ _ 2 6 (.slice (some ⟨qV,0,none⟩) n6 c6) Tryz.underlying26)
      refine pw 5 (some 20) rfl rfl ?_
      refine pw 6 (some 21) rfl rfl ?_
      refine pw 7 (some 22) rfl rfl ?_
      refine tk 8 (some 23) (bm 51 511) rfl rfl hHeld ?_ (hy:=CS (.bool false) (fun W h=>((fun W h=>h)) W h 9 _ rfl) Tryz.underlying4)
      refine pw 9 (some 24) rfl rfl ?_
      refine pw 10 (some 25) rfl rfl ?_
      refine pw 11 (some 26) rfl rfl ?_
      refine tk 12 (some 27) (bm 51 8191) rfl rfl hHeld ?_ (hy:=jQ _ 2 6 (.slice (some ⟨qV,0,none⟩) n6 c6) Tryz.underlying26)
      refine pw 13 (some 28) rfl rfl ?_
      refine pw 14 (some 29) rfl rfl ?_
      refine pw 15 (some 30) rfl rfl ?_
      refine tk 16 (some 31) (bm 51 131071) rfl rfl hHeld ?_ (hy:=CS (.slice A7_e1 n7_e1 d7_e1) (fun W h=>((fun W h=>h)) W h 7 _ rfl) Tryz.underlying23)
      refine pw 17 (some 32) rfl rfl ?_
      refine pw 18 (some 33) rfl rfl ?_
      refine pw 19 (some 34) rfl rfl ?_
      refine pw 20 (some 35) rfl rfl ?_
      refine pw 21 (some 36) rfl rfl ?_
      refine pw 22 (some 37) rfl rfl ?_
      refine pw 23 (some 38) rfl rfl ?_
      refine tk 24 (some 39) (bm 51 33554431) rfl rfl hHeld ?_ (hy:=jQ _ 2 8 (.int .i64 x8) Tryz.underlying3)
      refine pw 25 (some 40) rfl rfl ?_
      refine pw 26 (some 41) rfl rfl ?_
      refine pw 27 (some 42) rfl rfl ?_
      refine pw 28 (some 43) rfl rfl ?_
      refine pw 29 (some 44) rfl rfl ?_
      refine tk 30 (some 45) (bm 51 2147483647) rfl rfl hHeld ?_ (hy:=jQ _ 2 6 (.slice (some ⟨qV,0,none⟩) n6 c6) Tryz.underlying26)
      refine pw 31 (some 46) rfl rfl ?_
      refine pw 32 (some 47) rfl rfl ?_
      refine pw 33 (some 48) rfl rfl ?_
      refine pw 34 (some 49) rfl rfl ?_
      refine tk 35 (some 50) (bm 51 68719476735) rfl rfl hHeld ?_ (hy:=CS (.int .i64 s11_e1) (fun W h=>((fun W h=>h)) W h 11 _ rfl) Tryz.underlying3)
      refine pw 36 (some 51) rfl rfl ?_
      refine pw 37 (some 52) rfl rfl ?_
      refine pw 38 (some 53) rfl rfl ?_
      refine pn 39 (some 54) rfl rfl ?_
      refine pn 40 (some 55) rfl rfl ?_
      refine pn 41 (some 56) rfl rfl ?_
      refine pn 42 (some 57) rfl rfl ?_
      refine pn 43 (some 58) rfl rfl ?_
      refine pn 44 (some 59) rfl rfl ?_
      refine pn 45 (some 60) rfl rfl ?_
      refine pn 46 (some 61) rfl rfl ?_
      refine pn 47 (some 62) rfl rfl ?_
      refine pn 48 (some 63) rfl rfl ?_
      refine pn 49 (some 64) rfl rfl ?_
      refine pw 50 (some 65) rfl rfl ?_
      refine fw (dM HT_.out (by kernel_rfl)) ?_
      clear HT_ HW_
      go_wp2_with (first|((with_reducible refine aj (t:=4) (p:=66) rfl ?_);refine mP HW 2 10 (.bool true) (eC _ _ _ _ _ _ _ _ _ _ _) ([_]) ?_ (fP rfl);clear HW;intro KI HW;(try simp only[List.set_cons_zero,List.set_cons_succ]at HW))|((with_reducible refine gd 67 rfl ?_);refine lE HW 2 0 ?_)|((with_reducible refine aj (t:=31) (p:=4) rfl ?_);refine iA HW 0 ?_;clear HW;intro KJ HW;(try simp only[List.set_cons_zero,List.set_cons_succ]at HW)))
      refine bodyPost_ret (results_cell_row rfl _ _ g4 31 (eC _ _ _ _ _ _ _ _ _ _ _).toArray (0,0) _ rfl (HW.out.at 0 rfl) Tryz.underlying31 rfl (by kernel_rfl)) rfl ?_
      exact⟨_,_,rfl,HW.out.ts,⟨_,_,_,_,_,_,_,_,_,_,_,rfl,(HW.out.g.1.up (by omega))⟩⟩
     ·skip
      have apV:=decide_eq_false PD
      refine nA HW (fun W=>W.rangeAt qV (KS.toNat*12) (sC s0_e1 s1_e1 (.slice A2_e1 n2_e1 d2_e1) s3_e1 s4_e1 s5_e1 s6_e1 (.slice A7_e1 n7_e1 d7_e1) s8_e1 false s10_e1 s11_e1)) [48] 51 (hr_e1) (fun PE HN hHeld=>?_)
      replace HW:=HN
      clear HN
      refine bR iy.tab3 iy.bits3 (fun HT_ HW_=>?_)
      refine pw 0 (some 15) rfl rfl ?_
      refine pw 1 (some 16) rfl rfl ?_
      refine pw 2 (some 17) rfl rfl ?_
      refine pw 3 (some 18) rfl rfl ?_
      refine tk 4 (some 19) (bm 51 31) rfl rfl hHeld ?_ (hy:=jQ _ 2 6 (.slice (some ⟨qV,0,none⟩) n6 c6) Tryz.underlying26)
      refine pw 5 (some 20) rfl rfl ?_
      refine pw 6 (some 21) rfl rfl ?_
      refine pw 7 (some 22) rfl rfl ?_
      refine tk 8 (some 23) (bm 51 511) rfl rfl hHeld ?_ (hy:=CS (.bool false) (fun W h=>((fun W h=>h)) W h 9 _ rfl) Tryz.underlying4)
      refine pw 9 (some 24) rfl rfl ?_
      refine pw 10 (some 25) rfl rfl ?_
      refine pw 11 (some 26) rfl rfl ?_
      refine tk 12 (some 27) (bm 51 8191) rfl rfl hHeld ?_ (hy:=jQ _ 2 6 (.slice (some ⟨qV,0,none⟩) n6 c6) Tryz.underlying26)
      refine pw 13 (some 28) rfl rfl ?_
      refine pw 14 (some 29) rfl rfl ?_
      refine pw 15 (some 30) rfl rfl ?_
      refine tk 16 (some 31) (bm 51 131071) rfl rfl hHeld ?_ (hy:=CS (.slice A7_e1 n7_e1 d7_e1) (fun W h=>((fun W h=>h)) W h 7 _ rfl) Tryz.underlying23)
      refine pw 17 (some 32) rfl rfl ?_
      refine pw 18 (some 33) rfl rfl ?_
      refine pw 19 (some 34) rfl rfl ?_
      refine pw 20 (some 35) rfl rfl ?_
      refine pw 21 (some 36) rfl rfl ?_
      refine pw 22 (some 37) rfl rfl ?_
      refine pw 23 (some 38) rfl rfl ?_
      refine tk 24 (some 39) (bm 51 33554431) rfl rfl hHeld ?_ (hy:=jQ _ 2 8 (.int .i64 x8) Tryz.underlying3)
      refine pw 25 (some 40) rfl rfl ?_
      refine pw 26 (some 41) rfl rfl ?_
      refine pw 27 (some 42) rfl rfl ?_
      refine pw 28 (some 43) rfl rfl ?_
      refine pw 29 (some 44) rfl rfl ?_
      refine tk 30 (some 45) (bm 51 2147483647) rfl rfl hHeld ?_ (hy:=jQ _ 2 6 (.slice (some ⟨qV,0,none⟩) n6 c6) Tryz.underlying26)
      refine pw 31 (some 46) rfl rfl ?_
      refine pw 32 (some 47) rfl rfl ?_
      refine pw 33 (some 48) rfl rfl ?_
      refine pw 34 (some 49) rfl rfl ?_
      refine tk 35 (some 50) (bm 51 68719476735) rfl rfl hHeld ?_ (hy:=CS (.int .i64 s11_e1) (fun W h=>((fun W h=>h)) W h 11 _ rfl) Tryz.underlying3)
      refine pw 36 (some 51) rfl rfl ?_
      refine pw 37 (some 52) rfl rfl ?_
      refine pw 38 (some 53) rfl rfl ?_
      refine pw 39 (some 54) rfl rfl ?_
      refine tk 40 (some 55) (bm 51 2199023255551) rfl rfl hHeld ?_ (hy:=jQ _ 2 6 (.slice (some ⟨qV,0,none⟩) n6 c6) Tryz.underlying26)
      refine pw 41 (some 56) rfl rfl ?_
      refine pw 42 (some 57) rfl rfl ?_
      refine pw 43 (some 58) rfl rfl ?_
      refine tk 44 (some 59) (bm 51 35184372088831) rfl rfl hHeld ?_ (hy:=CS (.string s8_e1) (fun W h=>((fun W h=>h)) W h 8 _ rfl) Tryz.underlying9)
      refine pw 45 (some 60) rfl rfl ?_
      refine tk 46 (some 61) (bm 51 140737488355327) rfl rfl hHeld ?_ (hy:=jQ _ 1 3 (.string f3) Tryz.underlying9)
      refine pw 47 (some 62) rfl rfl ?_
      refine kJ (i:=48) (N:=some 63) (bm 51 562949953421311) rfl rfl (bL HT_.out (by kernel_rfl)) (by decide) (fun K hK=>?_)
      refine gs Tryz.func55 #[(.string (s8_e1++f3))] ?_
      with_reducible refine(Ii (s8_e1++f3) aaj).mono ?_
      rintro e Sd ⟨apW,rfl,aak,hb⟩
      refine⟨_,rfl,?_⟩
      have aFt:=eG hHeld.2 hb
      replace HW:=ah.mk (HW.out.quiet hb)
      clear hb
      refine hK.out _ _ ?_
      clear hK K
      refine nm ?_
      refine pw 49 (some 64) rfl rfl ?_
      refine pw 50 (some 65) rfl rfl ?_
      refine fw (dM HT_.out (by kernel_rfl)) ?_
      clear HT_ HW_
      go_upto_if 65 with(fail)
      cases apW with
      |true=>
       go_upto_region 6 with(fail)
       have agv:=aak rfl
       go_upto_if 94 with(first|((with_reducible refine gd 69 rfl ?_);refine lls HW 2 6 (.slice (some ⟨qV,0,none⟩) n6 c6) Tryz.underlying26 ?_)|((with_reducible refine gd 72 rfl ?_);refine lrw (cs:=sC s0_e1 s1_e1 (.slice A2_e1 n2_e1 d2_e1) s3_e1 s4_e1 s5_e1 s6_e1 (.slice A7_e1 n7_e1 d7_e1) s8_e1 false s10_e1 s11_e1) aFt Tryz.underlying39 ?_)|((with_reducible refine gd 7 rfl ?_);refine lbx (N:=7) (t:=39) HW zS ?_;clear HW;intro g7 PO HW)|((with_reducible refine aj (t:=39) (p:=7) rfl ?_);refine iA HW 0 ?_;clear HW;intro aal HW;(try simp only[List.set_cons_zero,List.set_cons_succ]at HW))|((with_reducible refine gd 74 rfl ?_);refine lls HW 0 8 (.string s8_e1) Tryz.underlying9 ?_)|((with_reducible refine gd 76 rfl ?_);refine lls HW 2 3 (.string f3) Tryz.underlying9 ?_)|((with_reducible refine aj (t:=9) (p:=78) rfl ?_);refine mP HW 0 8 (.string (s8_e1++f3)) (sC _ _ _ _ _ _ _ _ _ _ _ _) ([_]) ?_ (fP rfl);clear HW;intro a2y HW;(try simp only[List.set_cons_zero,List.set_cons_succ]at HW))|((with_reducible refine gd 81 rfl ?_);refine lls HW 0 11 (.int .i64 s11_e1) Tryz.underlying3 ?_)|((with_reducible refine aj (t:=3) (p:=85) rfl ?_);refine lsi HW 0 11 (fun q=>sC s0_e1 s1_e1 (.slice A2_e1 n2_e1 d2_e1) s3_e1 s4_e1 s5_e1 s6_e1 (.slice A7_e1 n7_e1 d7_e1) (s8_e1++f3) false s10_e1 q) ?_;intro apX a2z HN;(try simp only[List.set_cons_zero,List.set_cons_succ]at HN);replace HW:=HN;clear HN)|((with_reducible refine gd 88 rfl ?_);refine lls HW 3 8 (.int .i64 x8) Tryz.underlying3 ?_)|((with_reducible refine aj (t:=3) (p:=92) rfl ?_);refine lsi HW 3 8 (fun q=>eC x0 (.slice A1 n1 c1) x2 (.slice A3 n3 c3) x4 x5 (.slice (some ⟨qV,0,none⟩) n6 c6) x7 q (.slice A9 n9 c9) x10) ?_;intro ahH aac HN;(try simp only[List.set_cons_zero,List.set_cons_succ]at HN);replace HW:=HN;clear HN))
       go_cut [] (fun wq=>∃(Mq:Nat→Nat→Prop)(A9q:Option Addr)(n9q:Nat)(c9q:Nat),ah (LW b NX M w [⟨g7,sC s0_e1 s1_e1 (.slice A2_e1 n2_e1 d2_e1) s3_e1 s4_e1 s5_e1 s6_e1 (.slice A7_e1 n7_e1 d7_e1) (s8_e1++f3) false s10_e1 apX,39⟩,⟨g4,eC false (.slice none 0 0) 0 (.slice none 0 0) 0 (⟨#[]⟩:ByteArray) (.slice none 0 0) 0 0 (.slice none 0 0) false,31⟩,⟨g3,fC f0 f1 f2 f3,42⟩,⟨g2,eC x0 (.slice A1 n1 c1) x2 (.slice A3 n3 c3) x4 x5 (.slice (some ⟨qV,0,none⟩) n6 c6) x7 ahH (.slice A9q n9q c9q) x10,31⟩] (fun M w=>(((xw b N C (.slice A1 n1 c1) x2 (.slice A3 n3 c3) x4 x5 (.slice (some ⟨qV,0,none⟩) n6 c6) (.slice A9 n9 c9)) M w)∧(Ih b (.slice A2_e1 n2_e1 d2_e1) s3_e1 s6_e1 (.slice A7_e1 n7_e1 d7_e1) s8_e1) M w)∧(Ya 42 (N+2) (.slice A9q n9q c9q)) M w) Mq wq))
       case first=>
        by_cases apY:(f3.size:Int)>0
        ·skip
         have apZ:=decide_eq_true apY
         go_upto_region 11 with(fail)
         refine nA HW (fun _=>True) [11,13] 14 (trivial) (fun aq0 HN hHeld=>?_)
         replace HW:=HN
         clear HN
         refine bR iy.tab11 iy.bits11 (fun HT_ HW_=>?_)
         refine pw 0 (some 95) rfl rfl ?_
         refine tk 1 (some 96) (bm 14 3) rfl rfl hHeld ?_ (hy:=jQ _ 3 9 (.slice A9 n9 c9) Tryz.underlying29)
         refine pw 2 (some 97) rfl rfl ?_
         refine pw 5 (some 100) rfl rfl ?_
         refine tk 6 (some 101) (bm 14 103) rfl rfl hHeld ?_ (hy:=jQ _ 0 0 (.int .i64 s0_e1) Tryz.underlying3)
         refine pw 7 (some 102) rfl rfl ?_
         refine fV (i:=3) (N:=some 98) (bm 14 239) rfl rfl (bL HT_.out (by kernel_rfl)) (by decide) (fun K hK=>?_)
         refine gs Tryz.func59 #[(.int .i64 (f3.size:Int))] ?_
         with_reducible refine(KD (f3.size:Int)).mono ?_
         rintro e apK ⟨adk,rfl,aam,hb⟩
         refine⟨_,rfl,?_⟩
         replace HW:=ah.mk (HW.out.quiet hb)
         clear hb
         refine hK.out _ _ ⟨HW.out.bxs,trivial⟩ (fun hHeld=>?_)
         clear hK K
         refine nm ?_
         refine pw 4 (some 99) rfl rfl ?_
         refine fV (i:=8) (N:=some 103) (bm 14 511) rfl rfl (bL HT_.out (by kernel_rfl)) (by decide) (fun K hK=>?_)
         refine gs Tryz.func59 #[(.int .i64 (f3.size:Int))] ?_
         with_reducible refine(KD (f3.size:Int)).mono ?_
         rintro e aht ⟨adl,rfl,aan,hb⟩
         refine⟨_,rfl,?_⟩
         replace HW:=ah.mk (HW.out.quiet hb)
         clear hb
         refine hK.out _ _ ⟨HW.out.bxs,trivial⟩ (fun hHeld=>?_)
         clear hK K
         refine nm ?_
         refine pw 9 (some 104) rfl rfl ?_
         refine fV (i:=10) (N:=some 105) (bm 14 2047) rfl rfl (bL HT_.out (by kernel_rfl)) (by decide) (fun K hK=>?_)
         refine gF (by rfl) ?_
         refine KC (t:=42) (m:=2) HW (fC 8 false 0 adk++fC 8 false s0_e1 adl) ?_
         clear HW
         intro aSt a9M HW
         refine hK.out _ _ ⟨HW.out.drop.bxs,trivial⟩ (fun hHeld=>?_)
         clear hK K
         refine nm ?_
         refine kJ (i:=11) (N:=some 106) (bm 14 4095) rfl rfl (bL HT_.out (by kernel_rfl)) (by decide) (fun K hK=>?_)
         refine gF (by rfl) ?_
         refine a2c (T:=42) (m:=2) (bytes:=40) (z:=.agg (fC 0 false 0 (⟨#[]⟩:ByteArray)).toArray) (news:=fC 8 false 0 adk++fC 8 false s0_e1 adl) HW (HW.out.g.1.s9) (HW.out.hb hb0) rfl (vX HW.out (i:=0) rfl) (fP rfl) (by decide) (agp (.inr (.inl ⟨rfl,_,_,_,_,rfl,(a2e aam)⟩)) (.inr (.inl ⟨rfl,_,_,_,_,rfl,(a2e aan)⟩))) (by kernel_rfl) (by rfl) (by decide) (by omega) (by simp only[maxLen];omega) Tryz.underlying29 ?_
         intro aq1 c143 aSu apQ HN gQ pJ
         replace HW:=ah.mk (LW.fact (H:=Ya 42 (N+2) (.slice aq1 (n9+2) c143)) HN.out pJ (Mon.sl _ _ _))
         clear HN pJ gQ
         refine hK.out _ _ ?_
         clear hK K
         refine nm ?_
         refine pw 12 (some 107) rfl rfl ?_
         refine kJ (i:=13) (N:=none) (bm 14 16383) rfl rfl (bL HT_.out (by kernel_rfl)) (by decide) (fun K hK=>?_)
         refine gF (by rfl) ?_
         refine oQ HW 4 9 (.slice aq1 (n9+2) c143) (eC _ _ _ _ _ _ _ _ _ _ _) ([_]) ?_ (fP rfl)
         clear HW
         intro a9P HW
         (try simp only[List.set_cons_zero,List.set_cons_succ]at HW)
         refine hK.out _ _ ?_
         clear hK K
         refine fw (dM HT_.out (by kernel_rfl)) ?_
         clear HT_ HW_
         go_wp2_with (fail)
         go_meet
         exact⟨_,_,_,_,⟨LW.less HW.out.drop ⟨⟨(HW.out.g.1.1.up (by omega)),HW.out.g.1.2⟩,(HW.out.g.2.mono (N':=(N+2)) (by omega))⟩ (Mon.and (Mon.and (Mon.et _ _ _ _ _ _ _ _ _) (Mon.st _ _ _ _ _)) (Mon.sl _ _ _))⟩⟩
        ·skip
         have apZ:=decide_eq_false apY
         go_wp2_with (fail)
         go_meet
         exact⟨_,_,_,_,⟨LW.less HW.out ⟨⟨(HW.out.g.1.up (by omega)),HW.out.g.2⟩,(HW.out.g.1.s9.mono (N':=(N+2)) (by omega))⟩ (Mon.and (Mon.and (Mon.et _ _ _ _ _ _ _ _ _) (Mon.st _ _ _ _ _)) (Mon.sl _ _ _))⟩⟩
       case rest=>
        obtain⟨Mq,A9q,n9q,c9q,HC⟩:=hcut
        try clear HW
        have HW:=HC
        clear HC
        go_upto_if 109 with(first|((with_reducible refine gd 109 rfl ?_);refine lls HW 2 1 (.bool f1) Tryz.underlying4 ?_))
        cases f1 with
        |true=>
         go_wp2_with (first|((with_reducible refine gd 110 rfl ?_);refine lE HW 3 0 ?_)|((with_reducible refine gd 111 rfl ?_);refine lS HW 0 0 ?_)|((with_reducible refine gq 107 rfl ?_);refine gl (some 112) Tryz.func107 #[(.agg (eC _ _ _ _ _ _ _ _ _ _ _).toArray),(.agg (sC _ _ _ _ _ _ _ _ _ _ _ _).toArray)] ?_;with_reducible refine(Fy HW.out.ts.tw (HW.out.hb hb0) (N:=(N+2)) (C:=C) ⟨HW.out.g.1.1.t1,HW.out.g.1.1.t3,HW.out.g.1.1.c5,(HW.out.g.1.1.s6.mono (N':=(N+2)) (by omega)),(HW.out.g.2.mono (N':=(N+2)) (by omega))⟩ (by omega) ⟨HW.out.g.1.2.h2,HW.out.g.1.2.h7,HW.out.g.1.2.s0,HW.out.g.1.2.s1,HW.out.g.1.2.s3,agv⟩).mono ?_;rintro e ah0 h_;obtain⟨E_,M_146,rfl,gQ,hE_⟩:=h_.out;refine⟨_,rfl,?_⟩;obtain⟨aFu,aFv,u2_,ahI,aFw,aFx,ahJ,u7_,ahK,aFy,azr,azs,rfl,hF_⟩:=hE_.out;clear hE_;obtain⟨ahL,ahM,ahN,ahO,ahP,ahQ,yS,Cf⟩:=hF_.form;subst yS Cf;replace HW:=ah.mk ((HW.out.call gQ).st hF_);clear gQ hF_)|((with_reducible refine aj (t:=39) (p:=7) rfl ?_);refine iA HW 0 ?_;clear HW;intro apN HW;(try simp only[List.set_cons_zero,List.set_cons_succ]at HW))|((with_reducible refine gd 114 rfl ?_);refine lls HW 3 6 (.slice (some ⟨qV,0,none⟩) n6 c6) Tryz.underlying26 ?_)|((with_reducible refine gd 116 rfl ?_);refine lS HW 0 0 ?_)|((with_reducible refine aj (t:=39) (p:=117) rfl ?_);have hS_:ST b _ (.slice ahL ahM ahN) ahI ahJ (.slice ahO ahP ahQ) ahK:=HW.out.g.2;refine Yr HW (HW.out.g.1.1.1.s6) AZ.1 AZ.2 hS_ ?_;clear HW;intro a2C HW;(try simp only[List.set_cons_zero,List.set_cons_succ]at HW);clear hS_)|((with_reducible refine gd 118 rfl ?_);refine lE HW 3 0 ?_)|((with_reducible refine aj (t:=31) (p:=4) rfl ?_);refine iA HW 1 ?_;clear HW;intro aai HW;(try simp only[List.set_cons_zero,List.set_cons_succ]at HW)))
         refine bodyPost_ret (results_cell_row rfl _ _ g4 31 (eC _ _ _ _ _ _ _ _ _ _ _).toArray (0,0) _ rfl (HW.out.at 1 rfl) Tryz.underlying31 rfl (by kernel_rfl)) rfl ?_
         exact⟨_,_,rfl,HW.out.ts,⟨_,_,_,_,_,_,_,_,_,_,_,rfl,⟨HW.out.g.1.1.1.t1,HW.out.g.1.1.1.t3,HW.out.g.1.1.1.c5,(HW.out.g.1.1.1.s6.mono (N':=(N+2)) (by omega)),(HW.out.g.1.2.mono (N':=(N+2)) (by omega))⟩⟩⟩
        |false=>
         go_wp2_with (first|((with_reducible refine gd 114 rfl ?_);refine lls HW 3 6 (.slice (some ⟨qV,0,none⟩) n6 c6) Tryz.underlying26 ?_)|((with_reducible refine gd 116 rfl ?_);refine lS HW 0 0 ?_)|((with_reducible refine aj (t:=39) (p:=117) rfl ?_);have hS_:ST b _ (.slice A2_e1 n2_e1 d2_e1) s3_e1 s6_e1 (.slice A7_e1 n7_e1 d7_e1) (s8_e1++f3):=⟨HW.out.g.1.2.h2,HW.out.g.1.2.h7,HW.out.g.1.2.s0,HW.out.g.1.2.s1,HW.out.g.1.2.s3,agv⟩;refine Yr HW (HW.out.g.1.1.s6) AZ.1 AZ.2 hS_ ?_;clear HW;intro a2D HW;(try simp only[List.set_cons_zero,List.set_cons_succ]at HW);clear hS_)|((with_reducible refine gd 118 rfl ?_);refine lE HW 3 0 ?_)|((with_reducible refine aj (t:=31) (p:=4) rfl ?_);refine iA HW 1 ?_;clear HW;intro aq2 HW;(try simp only[List.set_cons_zero,List.set_cons_succ]at HW)))
         refine bodyPost_ret (results_cell_row rfl _ _ g4 31 (eC _ _ _ _ _ _ _ _ _ _ _).toArray (0,0) _ rfl (HW.out.at 1 rfl) Tryz.underlying31 rfl (by kernel_rfl)) rfl ?_
         exact⟨_,_,rfl,HW.out.ts,⟨_,_,_,_,_,_,_,_,_,_,_,rfl,⟨HW.out.g.1.1.t1,HW.out.g.1.1.t3,HW.out.g.1.1.c5,(HW.out.g.1.1.s6.mono (N':=(N+2)) (by omega)),(HW.out.g.2.mono (N':=(N+2)) (by omega))⟩⟩⟩
      |false=>
       go_wp2_with (first|((with_reducible refine aj (t:=4) (p:=66) rfl ?_);refine mP HW 2 10 (.bool true) (eC _ _ _ _ _ _ _ _ _ _ _) ([_]) ?_ (fP rfl);clear HW;intro a9S HW;(try simp only[List.set_cons_zero,List.set_cons_succ]at HW))|((with_reducible refine gd 67 rfl ?_);refine lE HW 2 0 ?_)|((with_reducible refine aj (t:=31) (p:=4) rfl ?_);refine iA HW 0 ?_;clear HW;intro ahx HW;(try simp only[List.set_cons_zero,List.set_cons_succ]at HW)))
       refine bodyPost_ret (results_cell_row rfl _ _ g4 31 (eC _ _ _ _ _ _ _ _ _ _ _).toArray (0,0) _ rfl (HW.out.at 0 rfl) Tryz.underlying31 rfl (by kernel_rfl)) rfl ?_
       exact⟨_,_,rfl,HW.out.ts,⟨_,_,_,_,_,_,_,_,_,_,_,rfl,(HW.out.g.1.up (by omega))⟩⟩
def jN.T4:Bool×List (List Nat×List Nat):=(true,[([],[]),([0],[0]),([1],[1]),([2],[2]),([3,2],[3]),([4],[4]),([5,4],[4,5]),([6,4,4],[4,6]),([7],[7]),([8,7],[7,8]),([7],[7]),([10,7],[7,10]),([7],[7]),([12,7],[7,12]),([11,13,7],[7,11,13]),([14,7],[7,14]),([15,7],[7,15]),([9,16,7],[7,9,16]),([7,17,4],[4,7,17]),([4,18],[4,18]),([19,7],[19]),([20],[20]),([21,20],[20,21]),([22,20],[20,22]),([23,20,20],[20,23]),([24],[24]),([25,24],[24,25]),([24],[24]),([27,24],[24,27]),([28,24],[24,28]),([26,29,24],[24,26,29]),([24,30,20],[20,24,30]),([20,31],[20,31]),([32,24],[32]),([33],[33]),([34,33,33],[33,34]),([35,33],[33,35]),([33,36],[33,36])])
def jN.B4:List Nat:=[0,1,3,7,15,31,63,127,255,511,255,1279,255,4351,15615,31999,64767,131071,262143,524287,1048575,2097151,4194303,8388607,16777215,33554431,67108863,33554431,167772159,436207615,1073741823,2147483647,4294967295,8589934591,17179869183,34359738367,68719476735,137438953471]
theorem jN.tab4:jm .any (opsOf Tryz.f14 4)=jN.T4:=by kernel_rfl
theorem jN.bits4:fQ jN.T4.2 jN.B4=true:=by kernel_rfl
theorem wo{w:World}{v1 v3 v6 v9:Value}{l1 l3:List bg}{l6:List pV}{l9:List nC}{x0 x10 r:Bool}{x2 x4 x7 x8:Int}{x5:ByteArray}(hE:Yd w v1 l1 v3 l3 v6 l6 v9 l9)(hs:SmE l1 l3 x5 l6 l9)(hr:xW x0 l1 x2 l3 x4 x5 l6 x7 x8 l9=r):Calls Tryz.prog 14 #[.agg (eC x0 v1 x2 v3 x4 x5 v6 x7 x8 v9 x10).toArray] w fun e w'=>e= .returned (.bool r)∧Below w.heap.size w w':=by
 obtain⟨b,hbe⟩:∃b,b=w.heap.size:=⟨_,rfl⟩
 have hw:TW b vv w:=.none _ _
 obtain⟨A1,c1,e_,_⟩:=hE.r1
 subst e_
 obtain⟨A3,c3,e_,_⟩:=hE.r3
 subst e_
 obtain⟨A6,c6,e_,aq3,C6,ahR⟩:=hE.r6
 subst e_
 have aFz:=C6.2.1
 clear C6
 obtain⟨A9,c9,e_,aFA,C9,aq4⟩:=hE.r9
 subst e_
 have aFB:=C9.2.1
 clear C9
 obtain⟨tk1,FJ⟩:∃t,ah (eH l1 x2=t):=⟨_,⟨rfl⟩⟩
 obtain⟨tk3,KT⟩:∃t,ah (eH l3 x4=t):=⟨_,⟨rfl⟩⟩
 obtain⟨fl,hfl⟩:∃t,ah (pU x7 x8=t):=⟨_,⟨rfl⟩⟩
 obtain⟨Gv,KU,aFC,⟨aFD,FL⟩,aFE,_⟩:=hs
 have HW:ah (LW b NX vv w [] (fun _ _=>True) vv w):=⟨LW.start hw trivial (Mon.top _)⟩
 clear hw
 go_enter Tryz.func14,Tryz.ntmps14
 have hI0:LI x0 l6 (uK l1 x2 l3 x4 x5 x7 x8 l9) r 0:=hr.symm
 obtain⟨af,haf⟩:∃t,ah (l9.all jA=t):=⟨_,⟨rfl⟩⟩
 go_wp2_with (first|((with_reducible refine gd 1 rfl ?_);refine lbx (N:=1) (t:=31) HW (eC x0 (.slice A1 l1.length c1) x2 (.slice A3 l3.length c3) x4 x5 (.slice A6 l6.length c6) x7 x8 (.slice A9 l9.length c9) x10) ?_;clear HW;intro g1 pF HW)|((with_reducible refine gd 6 rfl ?_);refine lls HW 0 6 (.slice A6 l6.length c6) Tryz.underlying26 ?_))
 go_loopg [8] (l6.length) (fun kq y8 wq=>∃(Mq:Nat→Nat→Prop)(iq:Int),(y8= .int .i64 iq)∧ah (0≤iq∧iq≤(l6.length:Int)∧l6.length-iq.toNat≤kq∧LI x0 l6 (uK l1 x2 l3 x4 x5 x7 x8 l9) r iq)∧ah (LW b NX vv w [⟨g1,eC x0 (.slice A1 l1.length c1) x2 (.slice A3 l3.length c3) x4 x5 (.slice A6 l6.length c6) x7 x8 (.slice A9 l9.length c9) x10,31⟩] (fun _ _=>True) Mq wq))
 case atStart=>exact⟨_,_,rfl,⟨⟨(by omega),(by omega),(by simp),hI0⟩⟩,⟨LW.less HW.out trivial (Mon.top _)⟩⟩
 case round=>
  clear HW
  obtain⟨Mq,iq,rfl,HI,HC⟩:=hrel
  have HW:=HC
  clear HC
  obtain⟨aao,aap,aaq,KV⟩:=HI.out
  have hI:=KV
  go_upto_if 9 with(fail)
  by_cases KW:iq<(l6.length:Int)
  ·skip
   have WH:=decide_eq_true KW
   go_upto_region 3 with(fail)
   obtain⟨k6,ek_⟩:=ahR (by omega)
   subst ek_
   obtain⟨p_e,A2_e,d2_e,A7_e,d7_e,sI,wu,tX,q2_e,C2_e,q7_e,C7_e⟩:=hE.el39 (i:=iq) (by omega) (by omega)
   obtain⟨ti,tY⟩:∃t,ah (tT p_e.f0=t):=⟨_,⟨rfl⟩⟩
   obtain⟨ts,xL⟩:∃t,ah (l8 p_e=t):=⟨_,⟨rfl⟩⟩
   have Yt:=eq_true (show(0:Int)≤iq by omega)
   have Yu:=eq_true (show iq<(l6.length:Int) by omega)
   have sJ:ah (wrap64 (wrap64 (2*iq)+1)=2*iq+1):=⟨by rw[dP (2*iq) (by omega) (by omega),dP _ (by omega) (by omega)]⟩
   go_upto_region 4 with(first|((with_reducible refine gd 12 rfl ?_);refine lrw (cs:=sC p_e.f0 p_e.f1 (.slice A2_e p_e.f2.length d2_e) p_e.f3 p_e.f4 p_e.f5 p_e.f6 (.slice A7_e p_e.f7.length d7_e) p_e.f8 p_e.f9 p_e.f10.f0 p_e.f10.f1) (eG tX (HW.out.underN hbe (Below.refl _ _) (.none _ _))) Tryz.underlying39 ?_)|((with_reducible refine gd 4 rfl ?_);refine lbx (N:=4) (t:=39) HW zS ?_;clear HW;intro g4 Ca HW)|((with_reducible refine aj (t:=39) (p:=4) rfl ?_);refine iA HW 0 ?_;clear HW;intro xH HW;(try simp only[List.set_cons_zero,List.set_cons_succ]at HW)))
   go_upto_region 4 with(fail)
   cases ti with
   |true=>
    by_cases c107:iq>0
    ·skip
     have PY:=decide_eq_true c107
     have qj:ah (wrap64 (iq-1)=iq-1):=⟨dP _ (by omega) (by omega)⟩
     have pj_:=eq_true (show(0:Int)≤wrap64 (iq-1) by have h_:=qj.out;omega)
     have qj_:=eq_true (show wrap64 (iq-1)<(l6.length:Int) by have h_:=qj.out;omega)
     obtain⟨p_y,A2_y,d2_y,A7_y,d7_y,hp_y,hpm_y,hre_y,q2_y,C2_y,q7_y,C7_y⟩:=hE.el39 (i:=wrap64 (iq-1)) (by have h_:=qj.out;omega) (by have h_:=qj.out;omega)
     have sK:fe l6 (iq-1)=p_y:=by rw[←qj.out];exact hp_y
     by_cases wh:p_e.f0≤p_y.f0
     ·skip
      have Ip:=decide_eq_true wh
      refine nA HW (fun W=>Below w.heap.size w W) [35] 38 ((HW.out.drew.underN hbe (Below.refl _ _) (.none _ _))) (fun AQ HN hHeld=>?_)
      replace HW:=HN
      clear HN
      refine bR jN.tab4 jN.bits4 (fun HT_ HW_=>?_)
      refine pw 0 (some 13) rfl rfl ?_
      refine tk 1 (some 14) (bm 38 3) rfl rfl hHeld ?_ (hy:=jQ _ 0 0 (.int .i64 p_e.f0) Tryz.underlying3)
      refine fV (i:=2) (N:=some 15) (bm 38 7) rfl rfl (bL HT_.out (by kernel_rfl)) (by decide) (fun K hK=>?_)
      refine gs Tryz.func35 #[(.int .i64 p_e.f0)] ?_
      with_reducible refine(vY tY.out).mono ?_
      rintro e Fz ⟨rfl,hb⟩
      refine⟨_,rfl,?_⟩
      replace HW:=ah.mk (HW.out.quiet hb)
      clear hb
      refine hK.out _ _ ⟨HW.out.bxs,(HW.out.underN hbe (Below.refl _ _) (.none _ _))⟩ (fun hHeld=>?_)
      clear hK K
      refine nm ?_
      refine pw 3 (some 16) rfl rfl ?_
      refine pw 4 (some 17) rfl rfl ?_
      refine pw 5 (some 18) rfl rfl ?_
      refine pw 6 (some 19) rfl rfl ?_
      refine pw 7 (some 20) rfl rfl ?_
      refine pw 8 (some 21) rfl rfl ?_
      refine tk 9 (some 22) (bm 38 1023) rfl rfl hHeld ?_ (hy:=jQ _ 0 0 (.int .i64 p_e.f0) Tryz.underlying3)
      refine pw 10 (some 23) rfl rfl ?_
      refine tk 11 (some 24) (bm 38 4095) rfl rfl hHeld ?_ (hy:=jQ _ 1 6 (.slice (some ⟨k6,0,none⟩) l6.length c6) Tryz.underlying26)
      refine pw 12 (some 25) rfl rfl ?_
      refine pw 13 (some 26) rfl rfl ?_
      refine pw 14 (some 27) rfl rfl ?_
      refine pw 15 (some 28) rfl rfl ?_
      refine tk 16 (some 29) (bm 38 131071) rfl rfl hHeld ?_ (hy:=CS (.int .i64 p_y.f0) (fun W h=>((fun W h=>eG hre_y h)) W h 0 _ rfl) Tryz.underlying3)
      refine pw 17 (some 30) rfl rfl ?_
      refine pw 18 (some 31) rfl rfl ?_
      refine pw 19 (some 32) rfl rfl ?_
      refine pw 20 (some 33) rfl rfl ?_
      refine pn 21 (some 34) rfl rfl ?_
      refine pn 22 (some 35) rfl rfl ?_
      refine pn 23 (some 36) rfl rfl ?_
      refine pn 24 (some 37) rfl rfl ?_
      refine pn 25 (some 38) rfl rfl ?_
      refine pn 26 (some 39) rfl rfl ?_
      refine pn 27 (some 40) rfl rfl ?_
      refine pn 28 (some 41) rfl rfl ?_
      refine pn 29 (some 42) rfl rfl ?_
      refine pn 30 (some 43) rfl rfl ?_
      refine pn 31 (some 44) rfl rfl ?_
      refine pw 32 (some 45) rfl rfl ?_
      refine pw 33 (some 46) rfl rfl ?_
      refine pn 34 (some 47) rfl rfl ?_
      refine pn 35 (some 48) rfl rfl ?_
      refine pn 36 (some 49) rfl rfl ?_
      refine pw 37 (some 50) rfl rfl ?_
      refine fw (dM HT_.out (by kernel_rfl)) ?_
      clear HT_ HW_
      go_wp2_with (fail)
      go_ret
      exact⟨by rw[hI.no (by omega) (by omega) sI (by first|exact .inl (by rw[tY.out];rfl)|exact .inl (by rw[xL.out,Bool.and_false])|exact .inr (.inl ⟨by omega,by rw[sK];omega⟩)|exact .inr (.inr ⟨rfl,by have h_:=sJ.out;omega⟩))]<;>rfl,(HW.out.underN hbe (Below.refl _ _) (.none _ _))⟩
     ·skip
      have Ip:=decide_eq_false wh
      cases x0 with
      |true=>
       refine nA HW (fun W=>Below w.heap.size w W) [35] 38 ((HW.out.drew.underN hbe (Below.refl _ _) (.none _ _))) (fun Cb HN hHeld=>?_)
       replace HW:=HN
       clear HN
       refine bR jN.tab4 jN.bits4 (fun HT_ HW_=>?_)
       refine pw 0 (some 13) rfl rfl ?_
       refine tk 1 (some 14) (bm 38 3) rfl rfl hHeld ?_ (hy:=jQ _ 0 0 (.int .i64 p_e.f0) Tryz.underlying3)
       refine fV (i:=2) (N:=some 15) (bm 38 7) rfl rfl (bL HT_.out (by kernel_rfl)) (by decide) (fun K hK=>?_)
       refine gs Tryz.func35 #[(.int .i64 p_e.f0)] ?_
       with_reducible refine(vY tY.out).mono ?_
       rintro e AV ⟨rfl,hb⟩
       refine⟨_,rfl,?_⟩
       replace HW:=ah.mk (HW.out.quiet hb)
       clear hb
       refine hK.out _ _ ⟨HW.out.bxs,(HW.out.underN hbe (Below.refl _ _) (.none _ _))⟩ (fun hHeld=>?_)
       clear hK K
       refine nm ?_
       refine pw 3 (some 16) rfl rfl ?_
       refine pw 4 (some 17) rfl rfl ?_
       refine pw 5 (some 18) rfl rfl ?_
       refine pw 6 (some 19) rfl rfl ?_
       refine pw 7 (some 20) rfl rfl ?_
       refine pw 8 (some 21) rfl rfl ?_
       refine tk 9 (some 22) (bm 38 1023) rfl rfl hHeld ?_ (hy:=jQ _ 0 0 (.int .i64 p_e.f0) Tryz.underlying3)
       refine pw 10 (some 23) rfl rfl ?_
       refine tk 11 (some 24) (bm 38 4095) rfl rfl hHeld ?_ (hy:=jQ _ 1 6 (.slice (some ⟨k6,0,none⟩) l6.length c6) Tryz.underlying26)
       refine pw 12 (some 25) rfl rfl ?_
       refine pw 13 (some 26) rfl rfl ?_
       refine pw 14 (some 27) rfl rfl ?_
       refine pw 15 (some 28) rfl rfl ?_
       refine tk 16 (some 29) (bm 38 131071) rfl rfl hHeld ?_ (hy:=CS (.int .i64 p_y.f0) (fun W h=>((fun W h=>eG hre_y h)) W h 0 _ rfl) Tryz.underlying3)
       refine pw 17 (some 30) rfl rfl ?_
       refine pw 18 (some 31) rfl rfl ?_
       refine pw 19 (some 32) rfl rfl ?_
       refine pw 20 (some 33) rfl rfl ?_
       refine pw 21 (some 34) rfl rfl ?_
       refine tk 22 (some 35) (bm 38 8388607) rfl rfl hHeld ?_ (hy:=jQ _ 1 0 (.bool true) Tryz.underlying4)
       refine pw 23 (some 36) rfl rfl ?_
       refine pw 24 (some 37) rfl rfl ?_
       refine pn 25 (some 38) rfl rfl ?_
       refine pn 26 (some 39) rfl rfl ?_
       refine pn 27 (some 40) rfl rfl ?_
       refine pn 28 (some 41) rfl rfl ?_
       refine pn 29 (some 42) rfl rfl ?_
       refine pn 30 (some 43) rfl rfl ?_
       refine pw 31 (some 44) rfl rfl ?_
       refine pw 32 (some 45) rfl rfl ?_
       refine pw 33 (some 46) rfl rfl ?_
       refine tk 34 (some 47) (bm 38 34359738367) rfl rfl hHeld ?_ (hy:=yld _ 0 0 (sC _ _ _ _ _ _ _ _ _ _ _ _) Tryz.underlying39)
       refine kJ (i:=35) (N:=some 48) (bm 38 68719476735) rfl rfl (bL HT_.out (by kernel_rfl)) (by decide) (fun K hK=>?_)
       refine gs Tryz.func36 #[(.agg (sC _ _ _ _ _ _ _ _ _ _ _ _).toArray)] ?_
       with_reducible refine(DY q2_e (Kd.C_below C2_e (HW.out.underN hbe (Below.refl _ _) (.none _ _))) q7_e (Kd.C_below C7_e (HW.out.underN hbe (Below.refl _ _) (.none _ _))) (FL _ wu) xL.out).mono ?_
       rintro e Dh ⟨rfl,hb⟩
       refine⟨_,rfl,?_⟩
       replace HW:=ah.mk (HW.out.quiet hb)
       clear hb
       refine hK.out _ _ ?_
       clear hK K
       refine nm ?_
       refine pw 36 (some 49) rfl rfl ?_
       refine pw 37 (some 50) rfl rfl ?_
       refine fw (dM HT_.out (by kernel_rfl)) ?_
       clear HT_ HW_
       go_upto_if 50 with(fail)
       cases ts with
       |true=>
        go_wp2_with (fail)
        go_roundg (l6.length-(iq+1).toNat)
        case measure=>omega
        case rel=>exact⟨_,_,rfl,⟨⟨(by omega),(by omega),(by omega),(hI.yes (by omega) (by omega) sI (by rw[tY.out,xL.out];rfl) (by first|exact .inl (by omega)|exact .inr (by rw[sK];omega)) (by first|exact .inl rfl|exact .inr (by have h_:=sJ.out;have g_:ah (p_e.f0=wrap64 (wrap64 (2*iq)+1)):=(by assumption);have g2_:=g_.out;omega)))⟩⟩,⟨LW.less HW.out.drop trivial (Mon.top _)⟩⟩
       |false=>
        go_wp2_with (fail)
        go_ret
        exact⟨by rw[hI.no (by omega) (by omega) sI (by first|exact .inl (by rw[tY.out];rfl)|exact .inl (by rw[xL.out,Bool.and_false])|exact .inr (.inl ⟨by omega,by rw[sK];omega⟩)|exact .inr (.inr ⟨rfl,by have h_:=sJ.out;omega⟩))]<;>rfl,(HW.out.underN hbe (Below.refl _ _) (.none _ _))⟩
      |false=>
       by_cases c116:p_e.f0=wrap64 ((wrap64 (2*iq))+1)
       ·skip
        have WA:(p_e.f0==(wrap64 ((wrap64 (2*iq))+1)))=true:=beq_iff_eq.mpr c116
        have ade:(p_e.f0 != (wrap64 ((wrap64 (2*iq))+1)))=false:=bne_eq_false_iff_eq.mpr c116
        have aOp:=ah.mk c116
        clear c116
        refine nA HW (fun W=>Below w.heap.size w W) [35] 38 ((HW.out.drew.underN hbe (Below.refl _ _) (.none _ _))) (fun yL HN hHeld=>?_)
        replace HW:=HN
        clear HN
        refine bR jN.tab4 jN.bits4 (fun HT_ HW_=>?_)
        refine pw 0 (some 13) rfl rfl ?_
        refine tk 1 (some 14) (bm 38 3) rfl rfl hHeld ?_ (hy:=jQ _ 0 0 (.int .i64 p_e.f0) Tryz.underlying3)
        refine fV (i:=2) (N:=some 15) (bm 38 7) rfl rfl (bL HT_.out (by kernel_rfl)) (by decide) (fun K hK=>?_)
        refine gs Tryz.func35 #[(.int .i64 p_e.f0)] ?_
        with_reducible refine(vY tY.out).mono ?_
        rintro e yM ⟨rfl,hb⟩
        refine⟨_,rfl,?_⟩
        replace HW:=ah.mk (HW.out.quiet hb)
        clear hb
        refine hK.out _ _ ⟨HW.out.bxs,(HW.out.underN hbe (Below.refl _ _) (.none _ _))⟩ (fun hHeld=>?_)
        clear hK K
        refine nm ?_
        refine pw 3 (some 16) rfl rfl ?_
        refine pw 4 (some 17) rfl rfl ?_
        refine pw 5 (some 18) rfl rfl ?_
        refine pw 6 (some 19) rfl rfl ?_
        refine pw 7 (some 20) rfl rfl ?_
        refine pw 8 (some 21) rfl rfl ?_
        refine tk 9 (some 22) (bm 38 1023) rfl rfl hHeld ?_ (hy:=jQ _ 0 0 (.int .i64 p_e.f0) Tryz.underlying3)
        refine pw 10 (some 23) rfl rfl ?_
        refine tk 11 (some 24) (bm 38 4095) rfl rfl hHeld ?_ (hy:=jQ _ 1 6 (.slice (some ⟨k6,0,none⟩) l6.length c6) Tryz.underlying26)
        refine pw 12 (some 25) rfl rfl ?_
        refine pw 13 (some 26) rfl rfl ?_
        refine pw 14 (some 27) rfl rfl ?_
        refine pw 15 (some 28) rfl rfl ?_
        refine tk 16 (some 29) (bm 38 131071) rfl rfl hHeld ?_ (hy:=CS (.int .i64 p_y.f0) (fun W h=>((fun W h=>eG hre_y h)) W h 0 _ rfl) Tryz.underlying3)
        refine pw 17 (some 30) rfl rfl ?_
        refine pw 18 (some 31) rfl rfl ?_
        refine pw 19 (some 32) rfl rfl ?_
        refine pw 20 (some 33) rfl rfl ?_
        refine pw 21 (some 34) rfl rfl ?_
        refine tk 22 (some 35) (bm 38 8388607) rfl rfl hHeld ?_ (hy:=jQ _ 1 0 (.bool false) Tryz.underlying4)
        refine pw 23 (some 36) rfl rfl ?_
        refine pw 24 (some 37) rfl rfl ?_
        refine pw 25 (some 38) rfl rfl ?_
        refine tk 26 (some 39) (bm 38 134217727) rfl rfl hHeld ?_ (hy:=jQ _ 0 0 (.int .i64 p_e.f0) Tryz.underlying3)
        refine pw 27 (some 40) rfl rfl ?_
        refine pw 28 (some 41) rfl rfl ?_
        refine pw 29 (some 42) rfl rfl ?_
        refine pw 30 (some 43) rfl rfl ?_
        refine pw 31 (some 44) rfl rfl ?_
        refine pw 32 (some 45) rfl rfl ?_
        refine pw 33 (some 46) rfl rfl ?_
        refine tk 34 (some 47) (bm 38 34359738367) rfl rfl hHeld ?_ (hy:=yld _ 0 0 (sC _ _ _ _ _ _ _ _ _ _ _ _) Tryz.underlying39)
        refine kJ (i:=35) (N:=some 48) (bm 38 68719476735) rfl rfl (bL HT_.out (by kernel_rfl)) (by decide) (fun K hK=>?_)
        refine gs Tryz.func36 #[(.agg (sC _ _ _ _ _ _ _ _ _ _ _ _).toArray)] ?_
        with_reducible refine(DY q2_e (Kd.C_below C2_e (HW.out.underN hbe (Below.refl _ _) (.none _ _))) q7_e (Kd.C_below C7_e (HW.out.underN hbe (Below.refl _ _) (.none _ _))) (FL _ wu) xL.out).mono ?_
        rintro e xI ⟨rfl,hb⟩
        refine⟨_,rfl,?_⟩
        replace HW:=ah.mk (HW.out.quiet hb)
        clear hb
        refine hK.out _ _ ?_
        clear hK K
        refine nm ?_
        refine pw 36 (some 49) rfl rfl ?_
        refine pw 37 (some 50) rfl rfl ?_
        refine fw (dM HT_.out (by kernel_rfl)) ?_
        clear HT_ HW_
        go_upto_if 50 with(fail)
        cases ts with
        |true=>
         go_wp2_with (fail)
         go_roundg (l6.length-(iq+1).toNat)
         case measure=>omega
         case rel=>exact⟨_,_,rfl,⟨⟨(by omega),(by omega),(by omega),(hI.yes (by omega) (by omega) sI (by rw[tY.out,xL.out];rfl) (by first|exact .inl (by omega)|exact .inr (by rw[sK];omega)) (by first|exact .inl rfl|exact .inr (by have h_:=sJ.out;have g_:ah (p_e.f0=wrap64 (wrap64 (2*iq)+1)):=(by assumption);have g2_:=g_.out;omega)))⟩⟩,⟨LW.less HW.out.drop trivial (Mon.top _)⟩⟩
        |false=>
         go_wp2_with (fail)
         go_ret
         exact⟨by rw[hI.no (by omega) (by omega) sI (by first|exact .inl (by rw[tY.out];rfl)|exact .inl (by rw[xL.out,Bool.and_false])|exact .inr (.inl ⟨by omega,by rw[sK];omega⟩)|exact .inr (.inr ⟨rfl,by have h_:=sJ.out;omega⟩))]<;>rfl,(HW.out.underN hbe (Below.refl _ _) (.none _ _))⟩
       ·skip
        have WA:(p_e.f0==(wrap64 ((wrap64 (2*iq))+1)))=false:=beq_eq_false_iff_ne.mpr c116
        have ade:(p_e.f0 != (wrap64 ((wrap64 (2*iq))+1)))=true:=bne_iff_ne.mpr c116
        refine nA HW (fun W=>Below w.heap.size w W) [35] 38 ((HW.out.drew.underN hbe (Below.refl _ _) (.none _ _))) (fun yN HN hHeld=>?_)
        replace HW:=HN
        clear HN
        refine bR jN.tab4 jN.bits4 (fun HT_ HW_=>?_)
        refine pw 0 (some 13) rfl rfl ?_
        refine tk 1 (some 14) (bm 38 3) rfl rfl hHeld ?_ (hy:=jQ _ 0 0 (.int .i64 p_e.f0) Tryz.underlying3)
        refine fV (i:=2) (N:=some 15) (bm 38 7) rfl rfl (bL HT_.out (by kernel_rfl)) (by decide) (fun K hK=>?_)
        refine gs Tryz.func35 #[(.int .i64 p_e.f0)] ?_
        with_reducible refine(vY tY.out).mono ?_
        rintro e AR ⟨rfl,hb⟩
        refine⟨_,rfl,?_⟩
        replace HW:=ah.mk (HW.out.quiet hb)
        clear hb
        refine hK.out _ _ ⟨HW.out.bxs,(HW.out.underN hbe (Below.refl _ _) (.none _ _))⟩ (fun hHeld=>?_)
        clear hK K
        refine nm ?_
        refine pw 3 (some 16) rfl rfl ?_
        refine pw 4 (some 17) rfl rfl ?_
        refine pw 5 (some 18) rfl rfl ?_
        refine pw 6 (some 19) rfl rfl ?_
        refine pw 7 (some 20) rfl rfl ?_
        refine pw 8 (some 21) rfl rfl ?_
        refine tk 9 (some 22) (bm 38 1023) rfl rfl hHeld ?_ (hy:=jQ _ 0 0 (.int .i64 p_e.f0) Tryz.underlying3)
        refine pw 10 (some 23) rfl rfl ?_
        refine tk 11 (some 24) (bm 38 4095) rfl rfl hHeld ?_ (hy:=jQ _ 1 6 (.slice (some ⟨k6,0,none⟩) l6.length c6) Tryz.underlying26)
        refine pw 12 (some 25) rfl rfl ?_
        refine pw 13 (some 26) rfl rfl ?_
        refine pw 14 (some 27) rfl rfl ?_
        refine pw 15 (some 28) rfl rfl ?_
        refine tk 16 (some 29) (bm 38 131071) rfl rfl hHeld ?_ (hy:=CS (.int .i64 p_y.f0) (fun W h=>((fun W h=>eG hre_y h)) W h 0 _ rfl) Tryz.underlying3)
        refine pw 17 (some 30) rfl rfl ?_
        refine pw 18 (some 31) rfl rfl ?_
        refine pw 19 (some 32) rfl rfl ?_
        refine pw 20 (some 33) rfl rfl ?_
        refine pw 21 (some 34) rfl rfl ?_
        refine tk 22 (some 35) (bm 38 8388607) rfl rfl hHeld ?_ (hy:=jQ _ 1 0 (.bool false) Tryz.underlying4)
        refine pw 23 (some 36) rfl rfl ?_
        refine pw 24 (some 37) rfl rfl ?_
        refine pw 25 (some 38) rfl rfl ?_
        refine tk 26 (some 39) (bm 38 134217727) rfl rfl hHeld ?_ (hy:=jQ _ 0 0 (.int .i64 p_e.f0) Tryz.underlying3)
        refine pw 27 (some 40) rfl rfl ?_
        refine pw 28 (some 41) rfl rfl ?_
        refine pw 29 (some 42) rfl rfl ?_
        refine pw 30 (some 43) rfl rfl ?_
        refine pw 31 (some 44) rfl rfl ?_
        refine pw 32 (some 45) rfl rfl ?_
        refine pw 33 (some 46) rfl rfl ?_
        refine pn 34 (some 47) rfl rfl ?_
        refine pn 35 (some 48) rfl rfl ?_
        refine pn 36 (some 49) rfl rfl ?_
        refine pw 37 (some 50) rfl rfl ?_
        refine fw (dM HT_.out (by kernel_rfl)) ?_
        clear HT_ HW_
        go_wp2_with (fail)
        go_ret
        exact⟨by rw[hI.no (by omega) (by omega) sI (by first|exact .inl (by rw[tY.out];rfl)|exact .inl (by rw[xL.out,Bool.and_false])|exact .inr (.inl ⟨by omega,by rw[sK];omega⟩)|exact .inr (.inr ⟨rfl,by have h_:=sJ.out;omega⟩))]<;>rfl,(HW.out.underN hbe (Below.refl _ _) (.none _ _))⟩
    ·skip
     have PY:=decide_eq_false c107
     cases x0 with
     |true=>
      refine nA HW (fun W=>Below w.heap.size w W) [35] 38 ((HW.out.drew.underN hbe (Below.refl _ _) (.none _ _))) (fun Fv HN hHeld=>?_)
      replace HW:=HN
      clear HN
      refine bR jN.tab4 jN.bits4 (fun HT_ HW_=>?_)
      refine pw 0 (some 13) rfl rfl ?_
      refine tk 1 (some 14) (bm 38 3) rfl rfl hHeld ?_ (hy:=jQ _ 0 0 (.int .i64 p_e.f0) Tryz.underlying3)
      refine fV (i:=2) (N:=some 15) (bm 38 7) rfl rfl (bL HT_.out (by kernel_rfl)) (by decide) (fun K hK=>?_)
      refine gs Tryz.func35 #[(.int .i64 p_e.f0)] ?_
      with_reducible refine(vY tY.out).mono ?_
      rintro e KI ⟨rfl,hb⟩
      refine⟨_,rfl,?_⟩
      replace HW:=ah.mk (HW.out.quiet hb)
      clear hb
      refine hK.out _ _ ⟨HW.out.bxs,(HW.out.underN hbe (Below.refl _ _) (.none _ _))⟩ (fun hHeld=>?_)
      clear hK K
      refine nm ?_
      refine pw 3 (some 16) rfl rfl ?_
      refine pw 4 (some 17) rfl rfl ?_
      refine pw 5 (some 18) rfl rfl ?_
      refine pw 6 (some 19) rfl rfl ?_
      refine pw 7 (some 20) rfl rfl ?_
      refine pn 8 (some 21) rfl rfl ?_
      refine pn 9 (some 22) rfl rfl ?_
      refine pn 10 (some 23) rfl rfl ?_
      refine pn 11 (some 24) rfl rfl ?_
      refine pn 12 (some 25) rfl rfl ?_
      refine pn 13 (some 26) rfl rfl ?_
      refine pn 14 (some 27) rfl rfl ?_
      refine pn 15 (some 28) rfl rfl ?_
      refine pn 16 (some 29) rfl rfl ?_
      refine pn 17 (some 30) rfl rfl ?_
      refine pw 18 (some 31) rfl rfl ?_
      refine pw 19 (some 32) rfl rfl ?_
      refine pw 20 (some 33) rfl rfl ?_
      refine pw 21 (some 34) rfl rfl ?_
      refine tk 22 (some 35) (bm 38 8388607) rfl rfl hHeld ?_ (hy:=jQ _ 1 0 (.bool true) Tryz.underlying4)
      refine pw 23 (some 36) rfl rfl ?_
      refine pw 24 (some 37) rfl rfl ?_
      refine pn 25 (some 38) rfl rfl ?_
      refine pn 26 (some 39) rfl rfl ?_
      refine pn 27 (some 40) rfl rfl ?_
      refine pn 28 (some 41) rfl rfl ?_
      refine pn 29 (some 42) rfl rfl ?_
      refine pn 30 (some 43) rfl rfl ?_
      refine pw 31 (some 44) rfl rfl ?_
      refine pw 32 (some 45) rfl rfl ?_
      refine pw 33 (some 46) rfl rfl ?_
      refine tk 34 (some 47) (bm 38 34359738367) rfl rfl hHeld ?_ (hy:=yld _ 0 0 (sC _ _ _ _ _ _ _ _ _ _ _ _) Tryz.underlying39)
      refine kJ (i:=35) (N:=some 48) (bm 38 68719476735) rfl rfl (bL HT_.out (by kernel_rfl)) (by decide) (fun K hK=>?_)
      refine gs Tryz.func36 #[(.agg (sC _ _ _ _ _ _ _ _ _ _ _ _).toArray)] ?_
      with_reducible refine(DY q2_e (Kd.C_below C2_e (HW.out.underN hbe (Below.refl _ _) (.none _ _))) q7_e (Kd.C_below C7_e (HW.out.underN hbe (Below.refl _ _) (.none _ _))) (FL _ wu) xL.out).mono ?_
      rintro e KJ ⟨rfl,hb⟩
      refine⟨_,rfl,?_⟩
      replace HW:=ah.mk (HW.out.quiet hb)
      clear hb
      refine hK.out _ _ ?_
      clear hK K
      refine nm ?_
      refine pw 36 (some 49) rfl rfl ?_
      refine pw 37 (some 50) rfl rfl ?_
      refine fw (dM HT_.out (by kernel_rfl)) ?_
      clear HT_ HW_
      go_upto_if 50 with(fail)
      cases ts with
      |true=>
       go_wp2_with (fail)
       go_roundg (l6.length-(iq+1).toNat)
       case measure=>omega
       case rel=>exact⟨_,_,rfl,⟨⟨(by omega),(by omega),(by omega),(hI.yes (by omega) (by omega) sI (by rw[tY.out,xL.out];rfl) (by first|exact .inl (by omega)|exact .inr (by rw[sK];omega)) (by first|exact .inl rfl|exact .inr (by have h_:=sJ.out;have g_:ah (p_e.f0=wrap64 (wrap64 (2*iq)+1)):=(by assumption);have g2_:=g_.out;omega)))⟩⟩,⟨LW.less HW.out.drop trivial (Mon.top _)⟩⟩
      |false=>
       go_wp2_with (fail)
       go_ret
       exact⟨by rw[hI.no (by omega) (by omega) sI (by first|exact .inl (by rw[tY.out];rfl)|exact .inl (by rw[xL.out,Bool.and_false])|exact .inr (.inl ⟨by omega,by rw[sK];omega⟩)|exact .inr (.inr ⟨rfl,by have h_:=sJ.out;omega⟩))]<;>rfl,(HW.out.underN hbe (Below.refl _ _) (.none _ _))⟩
     |false=>
      by_cases xK:p_e.f0=wrap64 ((wrap64 (2*iq))+1)
      ·skip
       have PN:(p_e.f0==(wrap64 ((wrap64 (2*iq))+1)))=true:=beq_iff_eq.mpr xK
       have a2x:(p_e.f0 != (wrap64 ((wrap64 (2*iq))+1)))=false:=bne_eq_false_iff_eq.mpr xK
       have apm:=ah.mk xK
       clear xK
       refine nA HW (fun W=>Below w.heap.size w W) [35] 38 ((HW.out.drew.underN hbe (Below.refl _ _) (.none _ _))) (fun Sd HN hHeld=>?_)
       replace HW:=HN
       clear HN
       refine bR jN.tab4 jN.bits4 (fun HT_ HW_=>?_)
       refine pw 0 (some 13) rfl rfl ?_
       refine tk 1 (some 14) (bm 38 3) rfl rfl hHeld ?_ (hy:=jQ _ 0 0 (.int .i64 p_e.f0) Tryz.underlying3)
       refine fV (i:=2) (N:=some 15) (bm 38 7) rfl rfl (bL HT_.out (by kernel_rfl)) (by decide) (fun K hK=>?_)
       refine gs Tryz.func35 #[(.int .i64 p_e.f0)] ?_
       with_reducible refine(vY tY.out).mono ?_
       rintro e aar ⟨rfl,hb⟩
       refine⟨_,rfl,?_⟩
       replace HW:=ah.mk (HW.out.quiet hb)
       clear hb
       refine hK.out _ _ ⟨HW.out.bxs,(HW.out.underN hbe (Below.refl _ _) (.none _ _))⟩ (fun hHeld=>?_)
       clear hK K
       refine nm ?_
       refine pw 3 (some 16) rfl rfl ?_
       refine pw 4 (some 17) rfl rfl ?_
       refine pw 5 (some 18) rfl rfl ?_
       refine pw 6 (some 19) rfl rfl ?_
       refine pw 7 (some 20) rfl rfl ?_
       refine pn 8 (some 21) rfl rfl ?_
       refine pn 9 (some 22) rfl rfl ?_
       refine pn 10 (some 23) rfl rfl ?_
       refine pn 11 (some 24) rfl rfl ?_
       refine pn 12 (some 25) rfl rfl ?_
       refine pn 13 (some 26) rfl rfl ?_
       refine pn 14 (some 27) rfl rfl ?_
       refine pn 15 (some 28) rfl rfl ?_
       refine pn 16 (some 29) rfl rfl ?_
       refine pn 17 (some 30) rfl rfl ?_
       refine pw 18 (some 31) rfl rfl ?_
       refine pw 19 (some 32) rfl rfl ?_
       refine pw 20 (some 33) rfl rfl ?_
       refine pw 21 (some 34) rfl rfl ?_
       refine tk 22 (some 35) (bm 38 8388607) rfl rfl hHeld ?_ (hy:=jQ _ 1 0 (.bool false) Tryz.underlying4)
       refine pw 23 (some 36) rfl rfl ?_
       refine pw 24 (some 37) rfl rfl ?_
       refine pw 25 (some 38) rfl rfl ?_
       refine tk 26 (some 39) (bm 38 134217727) rfl rfl hHeld ?_ (hy:=jQ _ 0 0 (.int .i64 p_e.f0) Tryz.underlying3)
       refine pw 27 (some 40) rfl rfl ?_
       refine pw 28 (some 41) rfl rfl ?_
       refine pw 29 (some 42) rfl rfl ?_
       refine pw 30 (some 43) rfl rfl ?_
       refine pw 31 (some 44) rfl rfl ?_
       refine pw 32 (some 45) rfl rfl ?_
       refine pw 33 (some 46) rfl rfl ?_
       refine tk 34 (some 47) (bm 38 34359738367) rfl rfl hHeld ?_ (hy:=yld _ 0 0 (sC _ _ _ _ _ _ _ _ _ _ _ _) Tryz.underlying39)
       refine kJ (i:=35) (N:=some 48) (bm 38 68719476735) rfl rfl (bL HT_.out (by kernel_rfl)) (by decide) (fun K hK=>?_)
       refine gs Tryz.func36 #[(.agg (sC _ _ _ _ _ _ _ _ _ _ _ _).toArray)] ?_
       with_reducible refine(DY q2_e (Kd.C_below C2_e (HW.out.underN hbe (Below.refl _ _) (.none _ _))) q7_e (Kd.C_below C7_e (HW.out.underN hbe (Below.refl _ _) (.none _ _))) (FL _ wu) xL.out).mono ?_
       rintro e PO ⟨rfl,hb⟩
       refine⟨_,rfl,?_⟩
       replace HW:=ah.mk (HW.out.quiet hb)
       clear hb
       refine hK.out _ _ ?_
       clear hK K
       refine nm ?_
       refine pw 36 (some 49) rfl rfl ?_
       refine pw 37 (some 50) rfl rfl ?_
       refine fw (dM HT_.out (by kernel_rfl)) ?_
       clear HT_ HW_
       go_upto_if 50 with(fail)
       cases ts with
       |true=>
        go_wp2_with (fail)
        go_roundg (l6.length-(iq+1).toNat)
        case measure=>omega
        case rel=>exact⟨_,_,rfl,⟨⟨(by omega),(by omega),(by omega),(hI.yes (by omega) (by omega) sI (by rw[tY.out,xL.out];rfl) (by first|exact .inl (by omega)|exact .inr (by rw[sK];omega)) (by first|exact .inl rfl|exact .inr (by have h_:=sJ.out;have g_:ah (p_e.f0=wrap64 (wrap64 (2*iq)+1)):=(by assumption);have g2_:=g_.out;omega)))⟩⟩,⟨LW.less HW.out.drop trivial (Mon.top _)⟩⟩
       |false=>
        go_wp2_with (fail)
        go_ret
        exact⟨by rw[hI.no (by omega) (by omega) sI (by first|exact .inl (by rw[tY.out];rfl)|exact .inl (by rw[xL.out,Bool.and_false])|exact .inr (.inl ⟨by omega,by rw[sK];omega⟩)|exact .inr (.inr ⟨rfl,by have h_:=sJ.out;omega⟩))]<;>rfl,(HW.out.underN hbe (Below.refl _ _) (.none _ _))⟩
      ·skip
       have PN:(p_e.f0==(wrap64 ((wrap64 (2*iq))+1)))=false:=beq_eq_false_iff_ne.mpr xK
       have a2x:(p_e.f0 != (wrap64 ((wrap64 (2*iq))+1)))=true:=bne_iff_ne.mpr xK
       refine nA HW (fun W=>Below w.heap.size w W) [35] 38 ((HW.out.drew.underN hbe (Below.refl _ _) (.none _ _))) (fun a2y HN hHeld=>?_)
       replace HW:=HN
       clear HN
       refine bR jN.tab4 jN.bits4 (fun HT_ HW_=>?_)
       refine pw 0 (some 13) rfl rfl ?_
       refine tk 1 (some 14) (bm 38 3) rfl rfl hHeld ?_ (hy:=jQ _ 0 0 (.int .i64 p_e.f0) Tryz.underlying3)
       refine fV (i:=2) (N:=some 15) (bm 38 7) rfl rfl (bL HT_.out (by kernel_rfl)) (by decide) (fun K hK=>?_)
       refine gs Tryz.func35 #[(.int .i64 p_e.f0)] ?_
       with_reducible refine(vY tY.out).mono ?_
       rintro e a2z ⟨rfl,hb⟩
       refine⟨_,rfl,?_⟩
       replace HW:=ah.mk (HW.out.quiet hb)
       clear hb
       refine hK.out _ _ ⟨HW.out.bxs,(HW.out.underN hbe (Below.refl _ _) (.none _ _))⟩ (fun hHeld=>?_)
       clear hK K
       refine nm ?_
       refine pw 3 (some 16) rfl rfl ?_
       refine pw 4 (some 17) rfl rfl ?_
       refine pw 5 (some 18) rfl rfl ?_
       refine pw 6 (some 19) rfl rfl ?_
       refine pw 7 (some 20) rfl rfl ?_
       refine pn 8 (some 21) rfl rfl ?_
       refine pn 9 (some 22) rfl rfl ?_
       refine pn 10 (some 23) rfl rfl ?_
       refine pn 11 (some 24) rfl rfl ?_
       refine pn 12 (some 25) rfl rfl ?_
       refine pn 13 (some 26) rfl rfl ?_
       refine pn 14 (some 27) rfl rfl ?_
       refine pn 15 (some 28) rfl rfl ?_
       refine pn 16 (some 29) rfl rfl ?_
       refine pn 17 (some 30) rfl rfl ?_
       refine pw 18 (some 31) rfl rfl ?_
       refine pw 19 (some 32) rfl rfl ?_
       refine pw 20 (some 33) rfl rfl ?_
       refine pw 21 (some 34) rfl rfl ?_
       refine tk 22 (some 35) (bm 38 8388607) rfl rfl hHeld ?_ (hy:=jQ _ 1 0 (.bool false) Tryz.underlying4)
       refine pw 23 (some 36) rfl rfl ?_
       refine pw 24 (some 37) rfl rfl ?_
       refine pw 25 (some 38) rfl rfl ?_
       refine tk 26 (some 39) (bm 38 134217727) rfl rfl hHeld ?_ (hy:=jQ _ 0 0 (.int .i64 p_e.f0) Tryz.underlying3)
       refine pw 27 (some 40) rfl rfl ?_
       refine pw 28 (some 41) rfl rfl ?_
       refine pw 29 (some 42) rfl rfl ?_
       refine pw 30 (some 43) rfl rfl ?_
       refine pw 31 (some 44) rfl rfl ?_
       refine pw 32 (some 45) rfl rfl ?_
       refine pw 33 (some 46) rfl rfl ?_
       refine pn 34 (some 47) rfl rfl ?_
       refine pn 35 (some 48) rfl rfl ?_
       refine pn 36 (some 49) rfl rfl ?_
       refine pw 37 (some 50) rfl rfl ?_
       refine fw (dM HT_.out (by kernel_rfl)) ?_
       clear HT_ HW_
       go_wp2_with (fail)
       go_ret
       exact⟨by rw[hI.no (by omega) (by omega) sI (by first|exact .inl (by rw[tY.out];rfl)|exact .inl (by rw[xL.out,Bool.and_false])|exact .inr (.inl ⟨by omega,by rw[sK];omega⟩)|exact .inr (.inr ⟨rfl,by have h_:=sJ.out;omega⟩))]<;>rfl,(HW.out.underN hbe (Below.refl _ _) (.none _ _))⟩
   |false=>
    refine nA HW (fun W=>Below w.heap.size w W) [35] 38 ((HW.out.drew.underN hbe (Below.refl _ _) (.none _ _))) (fun aac HN hHeld=>?_)
    replace HW:=HN
    clear HN
    refine bR jN.tab4 jN.bits4 (fun HT_ HW_=>?_)
    refine pw 0 (some 13) rfl rfl ?_
    refine tk 1 (some 14) (bm 38 3) rfl rfl hHeld ?_ (hy:=jQ _ 0 0 (.int .i64 p_e.f0) Tryz.underlying3)
    refine fV (i:=2) (N:=some 15) (bm 38 7) rfl rfl (bL HT_.out (by kernel_rfl)) (by decide) (fun K hK=>?_)
    refine gs Tryz.func35 #[(.int .i64 p_e.f0)] ?_
    with_reducible refine(vY tY.out).mono ?_
    rintro e a2A ⟨rfl,hb⟩
    refine⟨_,rfl,?_⟩
    replace HW:=ah.mk (HW.out.quiet hb)
    clear hb
    refine hK.out _ _ ⟨HW.out.bxs,(HW.out.underN hbe (Below.refl _ _) (.none _ _))⟩ (fun hHeld=>?_)
    clear hK K
    refine nm ?_
    refine pw 3 (some 16) rfl rfl ?_
    refine pw 4 (some 17) rfl rfl ?_
    refine pn 5 (some 18) rfl rfl ?_
    refine pn 6 (some 19) rfl rfl ?_
    refine pn 7 (some 20) rfl rfl ?_
    refine pn 8 (some 21) rfl rfl ?_
    refine pn 9 (some 22) rfl rfl ?_
    refine pn 10 (some 23) rfl rfl ?_
    refine pn 11 (some 24) rfl rfl ?_
    refine pn 12 (some 25) rfl rfl ?_
    refine pn 13 (some 26) rfl rfl ?_
    refine pn 14 (some 27) rfl rfl ?_
    refine pn 15 (some 28) rfl rfl ?_
    refine pn 16 (some 29) rfl rfl ?_
    refine pn 17 (some 30) rfl rfl ?_
    refine pn 18 (some 31) rfl rfl ?_
    refine pw 19 (some 32) rfl rfl ?_
    refine pw 20 (some 33) rfl rfl ?_
    refine pn 21 (some 34) rfl rfl ?_
    refine pn 22 (some 35) rfl rfl ?_
    refine pn 23 (some 36) rfl rfl ?_
    refine pn 24 (some 37) rfl rfl ?_
    refine pn 25 (some 38) rfl rfl ?_
    refine pn 26 (some 39) rfl rfl ?_
    refine pn 27 (some 40) rfl rfl ?_
    refine pn 28 (some 41) rfl rfl ?_
    refine pn 29 (some 42) rfl rfl ?_
    refine pn 30 (some 43) rfl rfl ?_
    refine pn 31 (some 44) rfl rfl ?_
    refine pw 32 (some 45) rfl rfl ?_
    refine pw 33 (some 46) rfl rfl ?_
    refine pn 34 (some 47) rfl rfl ?_
    refine pn 35 (some 48) rfl rfl ?_
    refine pn 36 (some 49) rfl rfl ?_
    refine pw 37 (some 50) rfl rfl ?_
    refine fw (dM HT_.out (by kernel_rfl)) ?_
    clear HT_ HW_
    go_wp2_with (fail)
    go_ret
    exact⟨by rw[hI.no (by omega) (by omega) sI (by first|exact .inl (by rw[tY.out];rfl)|exact .inl (by rw[xL.out,Bool.and_false])|exact .inr (.inl ⟨by omega,by rw[sK];omega⟩)|exact .inr (.inr ⟨rfl,by have h_:=sJ.out;omega⟩))]<;>rfl,(HW.out.underN hbe (Below.refl _ _) (.none _ _))⟩
  ·skip
   have WH:=decide_eq_false KW
   go_upto_region 7 with(fail)
   have hFd_:=a9y (hI.done (by omega)) FJ.out KT.out hfl.out haf.out
   by_cases KR:(l9.length:Int)≤60
   ·skip
    have WB:=decide_eq_true KR
    cases af with
    |true=>
     by_cases c141:(x5.size:Int)≤600
     ·skip
      have aq6:=decide_eq_true c141
      cases tk1 with
      |true=>
       cases tk3 with
       |true=>
        go_wp2_with (first|((with_reducible refine gd 53 rfl ?_);refine lls HW 0 9 (.slice A9 l9.length c9) Tryz.underlying29 ?_)|((with_reducible refine gd 58 rfl ?_);refine aM (by rfl) ?_;dsimp only;refine lls HW 0 9 (.slice A9 l9.length c9) Tryz.underlying29 ?_)|(go_at_call 37;with_reducible refine(AP (hE.below (HW.out.underN hbe (Below.refl _ _) (.none _ _))).r9 (by omega) haf.out).mono ?_;rintro e a2C ⟨rfl,hb⟩;replace HW:=ah.mk (HW.out.quiet hb);clear hb)|((with_reducible refine gd 64 rfl ?_);refine aM (by rfl) ?_;dsimp only;refine lls HW 0 5 (.string x5) Tryz.underlying9 ?_)|((with_reducible refine gd 70 rfl ?_);refine aM (by rfl) ?_;dsimp only;refine uN HW 0 1 (tC _ _) Tryz.underlying25 ?_)|(go_at_call 40;with_reducible refine(AO (hE.below (HW.out.underN hbe (Below.refl _ _) (.none _ _))).r1 Gv FJ.out).mono ?_;rintro e aai ⟨rfl,hb⟩;replace HW:=ah.mk (HW.out.quiet hb);clear hb)|((with_reducible refine gd 75 rfl ?_);refine aM (by rfl) ?_;dsimp only;refine uN HW 0 3 (tC _ _) Tryz.underlying25 ?_)|(go_at_call 40;with_reducible refine(AO (hE.below (HW.out.underN hbe (Below.refl _ _) (.none _ _))).r3 KU KT.out).mono ?_;rintro e a2D ⟨rfl,hb⟩;replace HW:=ah.mk (HW.out.quiet hb);clear hb)|((with_reducible refine gd 80 rfl ?_);refine aM (by rfl) ?_;dsimp only;refine uN HW 0 7 (oC _ _) Tryz.underlying28 ?_)|(go_at_call 41;with_reducible refine(a2m hfl.out).mono ?_;rintro e aq2 ⟨rfl,hb⟩;replace HW:=ah.mk (HW.out.quiet hb);clear hb))
        go_ret
        exact⟨by first|rfl|(rw[hFd_];first|rfl|(simp;done)|(simp[*];done)|(simp[*];omega)),(HW.out.underN hbe (Below.refl _ _) (.none _ _))⟩
       |false=>
        go_wp2_with (first|((with_reducible refine gd 53 rfl ?_);refine lls HW 0 9 (.slice A9 l9.length c9) Tryz.underlying29 ?_)|((with_reducible refine gd 58 rfl ?_);refine aM (by rfl) ?_;dsimp only;refine lls HW 0 9 (.slice A9 l9.length c9) Tryz.underlying29 ?_)|(go_at_call 37;with_reducible refine(AP (hE.below (HW.out.underN hbe (Below.refl _ _) (.none _ _))).r9 (by omega) haf.out).mono ?_;rintro e a9S ⟨rfl,hb⟩;replace HW:=ah.mk (HW.out.quiet hb);clear hb)|((with_reducible refine gd 64 rfl ?_);refine aM (by rfl) ?_;dsimp only;refine lls HW 0 5 (.string x5) Tryz.underlying9 ?_)|((with_reducible refine gd 70 rfl ?_);refine aM (by rfl) ?_;dsimp only;refine uN HW 0 1 (tC _ _) Tryz.underlying25 ?_)|(go_at_call 40;with_reducible refine(AO (hE.below (HW.out.underN hbe (Below.refl _ _) (.none _ _))).r1 Gv FJ.out).mono ?_;rintro e ahx ⟨rfl,hb⟩;replace HW:=ah.mk (HW.out.quiet hb);clear hb)|((with_reducible refine gd 75 rfl ?_);refine aM (by rfl) ?_;dsimp only;refine uN HW 0 3 (tC _ _) Tryz.underlying25 ?_)|(go_at_call 40;with_reducible refine(AO (hE.below (HW.out.underN hbe (Below.refl _ _) (.none _ _))).r3 KU KT.out).mono ?_;rintro e ah4 ⟨rfl,hb⟩;replace HW:=ah.mk (HW.out.quiet hb);clear hb))
        go_ret
        exact⟨by first|rfl|(rw[hFd_];first|rfl|(simp;done)|(simp[*];done)|(simp[*];omega)),(HW.out.underN hbe (Below.refl _ _) (.none _ _))⟩
      |false=>
       go_wp2_with (first|((with_reducible refine gd 53 rfl ?_);refine lls HW 0 9 (.slice A9 l9.length c9) Tryz.underlying29 ?_)|((with_reducible refine gd 58 rfl ?_);refine aM (by rfl) ?_;dsimp only;refine lls HW 0 9 (.slice A9 l9.length c9) Tryz.underlying29 ?_)|(go_at_call 37;with_reducible refine(AP (hE.below (HW.out.underN hbe (Below.refl _ _) (.none _ _))).r9 (by omega) haf.out).mono ?_;rintro e aFF ⟨rfl,hb⟩;replace HW:=ah.mk (HW.out.quiet hb);clear hb)|((with_reducible refine gd 64 rfl ?_);refine aM (by rfl) ?_;dsimp only;refine lls HW 0 5 (.string x5) Tryz.underlying9 ?_)|((with_reducible refine gd 70 rfl ?_);refine aM (by rfl) ?_;dsimp only;refine uN HW 0 1 (tC _ _) Tryz.underlying25 ?_)|(go_at_call 40;with_reducible refine(AO (hE.below (HW.out.underN hbe (Below.refl _ _) (.none _ _))).r1 Gv FJ.out).mono ?_;rintro e apt ⟨rfl,hb⟩;replace HW:=ah.mk (HW.out.quiet hb);clear hb))
       go_ret
       exact⟨by first|rfl|(rw[hFd_];first|rfl|(simp;done)|(simp[*];done)|(simp[*];omega)),(HW.out.underN hbe (Below.refl _ _) (.none _ _))⟩
     ·skip
      have aq6:=decide_eq_false c141
      go_wp2_with (first|((with_reducible refine gd 53 rfl ?_);refine lls HW 0 9 (.slice A9 l9.length c9) Tryz.underlying29 ?_)|((with_reducible refine gd 58 rfl ?_);refine aM (by rfl) ?_;dsimp only;refine lls HW 0 9 (.slice A9 l9.length c9) Tryz.underlying29 ?_)|(go_at_call 37;with_reducible refine(AP (hE.below (HW.out.underN hbe (Below.refl _ _) (.none _ _))).r9 (by omega) haf.out).mono ?_;rintro e aFl ⟨rfl,hb⟩;replace HW:=ah.mk (HW.out.quiet hb);clear hb)|((with_reducible refine gd 64 rfl ?_);refine aM (by rfl) ?_;dsimp only;refine lls HW 0 5 (.string x5) Tryz.underlying9 ?_))
      go_ret
      exact⟨by first|rfl|(rw[hFd_];first|rfl|(simp;done)|(simp[*];done)|(simp[*];omega)),(HW.out.underN hbe (Below.refl _ _) (.none _ _))⟩
    |false=>
     go_wp2_with (first|((with_reducible refine gd 53 rfl ?_);refine lls HW 0 9 (.slice A9 l9.length c9) Tryz.underlying29 ?_)|((with_reducible refine gd 58 rfl ?_);refine aM (by rfl) ?_;dsimp only;refine lls HW 0 9 (.slice A9 l9.length c9) Tryz.underlying29 ?_)|(go_at_call 37;with_reducible refine(AP (hE.below (HW.out.underN hbe (Below.refl _ _) (.none _ _))).r9 (by omega) haf.out).mono ?_;rintro e apu ⟨rfl,hb⟩;replace HW:=ah.mk (HW.out.quiet hb);clear hb))
     go_ret
     exact⟨by first|rfl|(rw[hFd_];first|rfl|(simp;done)|(simp[*];done)|(simp[*];omega)),(HW.out.underN hbe (Below.refl _ _) (.none _ _))⟩
   ·skip
    have WB:=decide_eq_false KR
    go_wp2_with (first|((with_reducible refine gd 53 rfl ?_);refine lls HW 0 9 (.slice A9 l9.length c9) Tryz.underlying29 ?_))
    go_ret
    exact⟨by first|rfl|(rw[hFd_];first|rfl|(simp;done)|(simp[*];done)|(simp[*];omega)),(HW.out.underN hbe (Below.refl _ _) (.none _ _))⟩
theorem PZ{b N C:Nat}{w:World}{M:Nat→Nat→Prop}{x0:Bool}{v1:Value}{x2:Int}{v3:Value}{x4:Int}{x5:ByteArray}{v6:Value}{x7 x8:Int}{v9:Value}{x10:Bool}{id:Int}(hw:TW b M w)(hb0:b≤w.heap.size)(E:ET b M w N C v1 x2 v3 x4 x5 v6 v9)(hN:N≤3000000):Calls Tryz.prog 23 #[.agg (eC x0 v1 x2 v3 x4 x5 v6 x7 x8 v9 x10).toArray,.int .i64 id] w (RF b M w (N+1) C):=by
 obtain⟨A1,n1,c1,A3,n3,c3,A6,n6,c6,A9,n9,c9,rfl,rfl,rfl,rfl,Qg,Qh⟩:=E.form4
 have HW:ah (LW b NX M w [] (xw b N C (.slice A1 n1 c1) x2 (.slice A3 n3 c3) x4 x5 (.slice A6 n6 c6) (.slice A9 n9 c9)) M w):=⟨LW.start hw E (Mon.et _ _ _ _ _ _ _ _ _)⟩
 clear hw E
 go_enter Tryz.func23,Tryz.ntmps23
 go_upto_region 2 with(first|((with_reducible refine gd 2 rfl ?_);refine lbx (N:=2) (t:=31) HW (eC x0 (.slice A1 n1 c1) x2 (.slice A3 n3 c3) x4 x5 (.slice A6 n6 c6) x7 x8 (.slice A9 n9 c9) x10) ?_;clear HW;intro g2 pF HW)|((with_reducible refine gd 4 rfl ?_);refine lbx (N:=4) (t:=31) HW zE ?_;clear HW;intro g4 xG HW)|((with_reducible refine gd 7 rfl ?_);refine lE HW 1 0 ?_)|((with_reducible refine gq 49 rfl ?_);refine gl (some 9) Tryz.func49 #[(.agg (eC _ _ _ _ _ _ _ _ _ _ _).toArray),(.int .i64 id)] ?_;with_reducible refine(Ig id HW.out.ts.tw (N:=N) (C:=C) (HW.out.g.up (by omega)) (by omega)).mono ?_;rintro e Ca ⟨aas,rfl,aFG,aFH,hb⟩;refine⟨_,rfl,?_⟩;replace HW:=ah.mk (HW.out.quiet hb);clear hb))
 cases x0 with
 |true=>
  go_wp2_with (first|((with_reducible refine gd 11 rfl ?_);refine lls HW 1 0 (.bool true) Tryz.underlying4 ?_)|((with_reducible refine gd 25 rfl ?_);refine lE HW 1 0 ?_)|((with_reducible refine aj (t:=31) (p:=4) rfl ?_);refine iA HW 0 ?_;clear HW;intro PK HW;(try simp only[List.set_cons_zero,List.set_cons_succ]at HW)))
  refine bodyPost_ret (fu rfl _ _ g4 31 (eC _ _ _ _ _ _ _ _ _ _ _).toArray (0,0) _ rfl (HW.out.at 0 rfl) Tryz.underlying31 rfl (by kernel_rfl)) rfl ?_
  exact⟨_,_,_,rfl,HW.out.ts,⟨_,_,_,_,_,_,_,_,_,_,_,rfl,(HW.out.g.up (by omega))⟩⟩
 |false=>
  by_cases c107:aas<0
  ·skip
   have PY:=decide_eq_true c107
   go_wp2_with (first|((with_reducible refine gd 11 rfl ?_);refine lls HW 1 0 (.bool false) Tryz.underlying4 ?_)|((with_reducible refine gd 25 rfl ?_);refine lE HW 1 0 ?_)|((with_reducible refine aj (t:=31) (p:=4) rfl ?_);refine iA HW 0 ?_;clear HW;intro AU HW;(try simp only[List.set_cons_zero,List.set_cons_succ]at HW)))
   refine bodyPost_ret (fu rfl _ _ g4 31 (eC _ _ _ _ _ _ _ _ _ _ _).toArray (0,0) _ rfl (HW.out.at 0 rfl) Tryz.underlying31 rfl (by kernel_rfl)) rfl ?_
   exact⟨_,_,_,rfl,HW.out.ts,⟨_,_,_,_,_,_,_,_,_,_,_,rfl,(HW.out.g.up (by omega))⟩⟩
  ·skip
   have PY:=decide_eq_false c107
   have Iw:=(show 0≤aas∧aas<(n6:Int)from⟨by omega,by omega⟩)
   obtain⟨aat,aq7,_,_⟩:=SL.has (HW.out.g.s6) (by omega)
   subst aq7
   obtain⟨s0_e1,s1_e1,u2_e1,s3_e1,s4_e1,s5_e1,s6_e1,u7_e1,s8_e1,s9_e1,s10_e1,s11_e1,hr_e1,hs_e1⟩:=HW.out.rd39 (HW.out.g.s6) (i:=aas) (by omega) (by omega)
   obtain⟨A2_e1,n2_e1,d2_e1,A7_e1,n7_e1,d7_e1,yS,Cf⟩:=hs_e1.form
   subst yS Cf
   replace HW:=ah.mk (LW.fact (H:=Ih b (.slice A2_e1 n2_e1 d2_e1) s3_e1 s6_e1 (.slice A7_e1 n7_e1 d7_e1) s8_e1) HW.out hs_e1 (Mon.st _ _ _ _ _))
   clear hs_e1
   have pi_e1:=eq_true Iw.1
   have qi_e1:=eq_true Iw.2
   have aOq:=hr_e1 1 _ rfl
   have aOr:=hr_e1 4 _ rfl
   have adm:=HW.out.cell (v:=(.slice (some ⟨aat,0,none⟩) n6 c6)) 1 6
   go_upto_if 24 with(first|((with_reducible refine gd 11 rfl ?_);refine lls HW 1 0 (.bool false) Tryz.underlying4 ?_))
   by_cases xM:s1_e1=1
   ·skip
    subst xM
    go_upto_if 31 with(first|((with_reducible refine gd 27 rfl ?_);refine lls HW 1 6 (.slice (some ⟨aat,0,none⟩) n6 c6) Tryz.underlying26 ?_))
    cases s4_e1 with
    |true=>
     go_wp2_with (first|((with_reducible refine gd 33 rfl ?_);refine lls HW 1 9 (.slice A9 n9 c9) Tryz.underlying29 ?_)|((with_reducible refine gd 36 rfl ?_);refine Y9 (N:=36) (t:=42) (m:=1) HW (fC 3 false id (⟨#[]⟩:ByteArray)) ?_;clear HW;intro g36 KO HW)|((with_reducible refine gd 37 rfl ?_);refine lap (T:=42) (m:=1) (bytes:=40) (z:=.agg (fC 0 false 0 (⟨#[]⟩:ByteArray)).toArray) (news:=fC 3 false id (⟨#[]⟩:ByteArray)) HW (HW.out.g.1.s9) (HW.out.hb hb0) rfl (vX HW.out (i:=0) rfl) (fP rfl) (by decide) (fun i hi=>by obtain rfl:i=0:=(by omega);exact .inr (.inl ⟨rfl,_,_,_,_,rfl,⟨fun h=>absurd h (by decide),by decide⟩⟩)) (by kernel_rfl) (by rfl) (by decide) (by omega) (by simp only[maxLen];omega) Tryz.underlying29 ?_;intro aq8 c116 aSw yO HN gQ pJ;replace HW:=ah.mk (LW.fact (H:=Ya 42 (N+1) (.slice aq8 (n9+1) c116)) HN.out pJ (Mon.sl _ _ _));clear HN pJ gQ)|((with_reducible refine aj (t:=29) (p:=38) rfl ?_);refine mP HW 2 9 (.slice aq8 (n9+1) c116) (eC _ _ _ _ _ _ _ _ _ _ _) ([_]) ?_ (fP rfl);clear HW;intro yL HW;(try simp only[List.set_cons_zero,List.set_cons_succ]at HW))|((with_reducible refine gd 40 rfl ?_);refine lls HW 2 6 (.slice (some ⟨aat,0,none⟩) n6 c6) Tryz.underlying26 ?_)|((with_reducible refine aj (t:=3) (p:=43) rfl ?_);refine lsn HW (HW.out.g.1.1.s6) Iw.1 Iw.2 1 (by decide) ?_;clear HW;intro yM HW;(try simp only[List.set_cons_zero,List.set_cons_succ]at HW))|((with_reducible refine gd 44 rfl ?_);refine lE HW 2 0 ?_)|((with_reducible refine aj (t:=31) (p:=4) rfl ?_);refine iA HW 1 ?_;clear HW;intro xI HW;(try simp only[List.set_cons_zero,List.set_cons_succ]at HW)))
     refine bodyPost_ret (fu rfl _ _ g4 31 (eC _ _ _ _ _ _ _ _ _ _ _).toArray (0,0) _ rfl (HW.out.at 1 rfl) Tryz.underlying31 rfl (by kernel_rfl)) rfl ?_
     exact⟨_,_,_,rfl,HW.out.ts,⟨_,_,_,_,_,_,_,_,_,_,_,rfl,⟨HW.out.g.1.1.t1,HW.out.g.1.1.t3,HW.out.g.1.1.c5,(HW.out.g.1.1.s6.mono (N':=(N+1)) (by omega)),(HW.out.g.2.mono (N':=(N+1)) (by omega))⟩⟩⟩
    |false=>
     go_wp2_with (first|((with_reducible refine gd 40 rfl ?_);refine lls HW 1 6 (.slice (some ⟨aat,0,none⟩) n6 c6) Tryz.underlying26 ?_)|((with_reducible refine aj (t:=3) (p:=43) rfl ?_);refine lsn HW (HW.out.g.1.s6) Iw.1 Iw.2 1 (by decide) ?_;clear HW;intro Cc HW;(try simp only[List.set_cons_zero,List.set_cons_succ]at HW))|((with_reducible refine gd 44 rfl ?_);refine lE HW 1 0 ?_)|((with_reducible refine aj (t:=31) (p:=4) rfl ?_);refine iA HW 0 ?_;clear HW;intro yN HW;(try simp only[List.set_cons_zero,List.set_cons_succ]at HW)))
     refine bodyPost_ret (fu rfl _ _ g4 31 (eC _ _ _ _ _ _ _ _ _ _ _).toArray (0,0) _ rfl (HW.out.at 0 rfl) Tryz.underlying31 rfl (by kernel_rfl)) rfl ?_
     exact⟨_,_,_,rfl,HW.out.ts,⟨_,_,_,_,_,_,_,_,_,_,_,rfl,(HW.out.g.1.up (by omega))⟩⟩
   ·skip
    have WI:(s1_e1==1)=false:=beq_eq_false_iff_ne.mpr xM
    have adn:(s1_e1 != 1)=true:=bne_iff_ne.mpr xM
    go_wp2_with (first|((with_reducible refine gd 25 rfl ?_);refine lE HW 1 0 ?_)|((with_reducible refine aj (t:=31) (p:=4) rfl ?_);refine iA HW 0 ?_;clear HW;intro AR HW;(try simp only[List.set_cons_zero,List.set_cons_succ]at HW)))
    refine bodyPost_ret (fu rfl _ _ g4 31 (eC _ _ _ _ _ _ _ _ _ _ _).toArray (0,0) _ rfl (HW.out.at 0 rfl) Tryz.underlying31 rfl (by kernel_rfl)) rfl ?_
    exact⟨_,_,_,rfl,HW.out.ts,⟨_,_,_,_,_,_,_,_,_,_,_,rfl,(HW.out.g.1.up (by omega))⟩⟩
end Go.Proofs.YtokblgdgpnakpaaGreat.PFnEndLess
