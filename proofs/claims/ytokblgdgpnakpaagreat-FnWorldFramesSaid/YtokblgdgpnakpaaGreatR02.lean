/- FnWorldFrames holds: part 2 of a proof that the given program meets it (printed texts and walks of our own, made short by a program). No condition. -/
import Derived.Test.YtokblgdgpnakpaaGreatR01
set_option linter.unusedVariables false
set_option linter.unusedSimpArgs false
set_option maxHeartbeats 8000000
set_option maxRecDepth 100000
namespace Go.Proofs.YtokblgdgpnakpaaGreat.PFnEndLess
open Go.RowKit Go.Proofs.YtokblgdgpnakpaaGreatW.PrintWords Go.Proofs.YtokblgdgpnakpaaGreatW.PrintLast Go.Proofs.YtokblgdgpnakpaaGreatW.PrintMore Go.Proofs.YtokblgdgpnakpaaGreat.Lm
attribute [local go_sem] bA bn bV bW aW aV bE bF
def bQ.l0:Nat→Int→List (bf)→Int→Option (Bool)
 |0,_,_,_=>none
 |k+1,x3,uP,KH=>if x3<(uP.length:Int)then(if 0≤x3 then((eH.f k ((aU uP x3).f0) ((aU uP x3).f1) ((aU uP x3).f2)).bind fun t131=>(if t131=true then(if(aU uP x3).f2=true then(some false)else(bQ.l0 k (wrap64 (x3+1)) uP KH))else(some false)))else(none))else((cK.f KH 0 64).bind fun aeH=>(if aeH=true then((dA.f k uP).bind fun aeI=>(some (decide (aeI≤KH))))else(some false)))
def bQ.f(k:Nat)(aH:List (bf))(aA:Int):Option (Bool):=bQ.l0 k 0 aH aA
theorem bQ.mono_l:∀k,(∀y0 y1 y2,gM (bQ.l0 k y0 y1 y2) (bQ.l0 (k+1) y0 y1 y2))
 |0=>fun _ _ _ r h=>by simp[bQ.l0]at h
 |k+1=>by
  have mW:=bQ.mono_l k
  ·intro y0 y1 y2
   unfold bQ.l0
   have m0:=@eH.mono
   have m1:=@dA.mono
   exact zm
theorem bQ.mono:∀a0 a1 k,gM (bQ.f k a0 a1) (bQ.f (k+1) a0 a1):=by
 intro a0 a1 k
 have mW:=bQ.mono_l k
 unfold bQ.f
 have m0:=@eH.mono
 have m1:=@dA.mono
 exact zm
def bQ.T6:Bool×List (List Nat×List Nat):=(true,[([],[]),([0],[0]),([1],[1]),([2,2],[2]),([3],[3]),([4,3],[3,4]),([5,3,3],[3,5]),([3],[3]),([7,3],[3,7]),([6,8,3],[3,6,8]),([3,9],[3,9]),([10,6,0,1,2,3,4,5,6,7,8,9,10],[10])])
def bQ.B6:List Nat:=[0,1,3,7,15,31,63,15,143,511,1023,2047]
theorem bQ.tab6:jG .any (opsOf Tryz.f30 6)=bQ.T6:=by kernel_rfl
theorem bQ.bits6:fQ bQ.T6.2 bQ.B6=true:=by kernel_rfl
theorem bQ.calls(k:Nat)(j4:Option Addr)(j5:Nat)(aH:List (bf))(aA:Int)(r:Bool)(w:World)(kT:Kd.C iH w j4 aH.length aH)(kU:aH.length≤j5)(h:bQ.f k aH aA=some r):
 Calls Tryz.prog 30 #[.agg #[.slice j4 aH.length j5,.int .i64 aA]] w fun e w'=>e= .returned (.bool r)∧Below w.heap.size w w':=by
 have Ab:=Tryz.underlying25
 have sN:=Tryz.underlying89
 have lM:=ah.mk kT
 have pO:=ah.mk kU
 clear kT kU
 have HB:=ah.mk (Below.refl w.heap.size w)
 have H:(bQ.l0 k 0 aH aA)=some r:=h
 clear h
 have H':=ah.mk H
 clear H
 go_enter Tryz.func30,Tryz.ntmps30
 go_wp2_with (first|((with_reducible refine gd 1 rfl ?_);refine bx (N:=1) (cs:=#[.slice j4 aH.length j5,.int .i64 aA]) (t:=25) ?_;intro aln hg w2 hbox hb;have kW:=ah.mk (hbox);have alo:=gw HB hg;have aLO:=alo;replace HB:=ah.mk (ai (zb HB) hb);clear hb hbox hg))
 go_loopg [3] k (fun kq v3 w'=>∃(dh:Int),v3= .int .i64 dh∧ah (bQ.l0 kq dh aH aA=some r)∧ah (kq≤k)∧ah (w'.heap[aln]?=some (.cells #[(.slice j4 aH.length j5),.int .i64 aA] 25 (0,0)))∧ah (Below w.heap.size w w'))
 case atStart=>exact⟨(0),zs,H',⟨Nat.le_refl _⟩,⟨by exact zk kW⟩,⟨zb HB⟩⟩
 case round=>
  clear H'
  try clear p2
  obtain⟨dh,rfl,HA,jd,kW,HB⟩:=hrel
  cases gk with
  |zero=>exact absurd HA.out (by simp[bQ.l0])
  |succ k1=>
   have H:=HA.out
   clear HA
   simp only[bQ.l0]at H
   replace H:=sp H
   rcases H with⟨c3,H⟩|⟨c3,H⟩
   ·skip
    have c3b0:=decide_eq_true c3
    clear c3
    by_cases c4:0≤dh
    ·rw[if_pos c4]at H
     have c4b0:=decide_eq_true c4
     clear c4
     obtain⟨t131,A5,H⟩:=ob H
     (try dsimp only at H)
     by_cases c6:t131=true
     ·subst c6
      rw[if_pos rfl]at H
      have Xv:=ah.mk H
      clear H
      obtain⟨BK,BL,BM,BN⟩:=c2 kW
      have R9:0≤(dh:Int):=of_decide_eq_true za
      have Ra:dh<(aH.length:Int):=of_decide_eq_true za
      obtain⟨abR,aeJ,Ac,Ad,Ae⟩:=eT lM.out dh R9 Ra
      cases aeJ
      replace Ac:=pX Ac HB
      replace Ad:=pX Ad HB
      replace Ae:=pX Ae HB
      replace R9:=eq_true R9
      replace Ra:=eq_true Ra
      go_upto_if 25 with(first|((with_reducible refine gq 56 rfl ?_);refine gl (some 16) Tryz.func56 #[.agg #[.string ((aU aH dh).f0),.string ((aU aH dh).f1),.bool ((aU aH dh).f2)]] ?_;(with_reducible refine(eH.calls k1 ((aU aH dh).f0) ((aU aH dh).f1) ((aU aH dh).f2) true _ A5.out).mono ?_);rintro e w9 ⟨rfl,hb⟩;refine⟨_,rfl,?_⟩;replace kW:=kb kW hb;replace HB:=ah.mk (ai (zb HB) hb);(try clear hb);obtain⟨EQ,ER,ES,EU⟩:=c2 kW;have aeK:0≤(dh:Int):=of_decide_eq_true za;have a8w:dh<(aH.length:Int):=of_decide_eq_true za;obtain⟨alp,aCt,V3,V4,V5⟩:=eT lM.out dh aeK a8w;obtain rfl:abR=alp:=(by injection aCt);replace V3:=pX V3 HB;replace V4:=pX V4 HB;replace V5:=pX V5 HB;replace aeK:=eq_true aeK;replace a8w:=eq_true a8w))
      (try simp only[Act.put,s1,s2,s3])
      have H:=Xv.out
      clear Xv
      obtain⟨alq,a0J⟩:∃b_:Bool,b_=((aU aH dh).f2):=⟨_,rfl⟩
      replace H:(if alq=true then(some false)else(bQ.l0 k1 (wrap64 (dh+1)) aH aA))=some r:=by rw[←a0J]at H;exact H
      have abS:=ah.mk a0J
      clear a0J
      (try rw[←abS.out])
      (try rw[←abS.out]at kW)
      by_cases c12:alq=true
      ·subst c12
       rw[if_pos rfl]at H
       obtain rfl:=Option.some.inj H
       go_wp2
       go_ret
       exact⟨ze,zb HB⟩
      ·replace c12:=Bool.eq_false_iff.mpr c12
       subst c12
       rw[if_neg (show ¬(false=true) by decide)]at H
       have H':=ah.mk H
       clear H
       go_wp2
       go_roundg k1
       case measure=>have:=jd.out;omega
       case rel=>exact⟨(wrap64 (dh+1)),zs,H',⟨by have:=jd.out;omega⟩,⟨by exact zk kW⟩,⟨zb HB⟩⟩
     ·replace c6:=Bool.eq_false_iff.mpr c6
      subst c6
      rw[if_neg (show ¬(false=true) by decide)]at H
      obtain rfl:=Option.some.inj H
      obtain⟨KI,KJ,KL,KM⟩:=c2 kW
      have R9:0≤(dh:Int):=of_decide_eq_true za
      have Ra:dh<(aH.length:Int):=of_decide_eq_true za
      obtain⟨abR,aeJ,Ac,Ad,Ae⟩:=eT lM.out dh R9 Ra
      cases aeJ
      replace Ac:=pX Ac HB
      replace Ad:=pX Ad HB
      replace Ae:=pX Ae HB
      replace R9:=eq_true R9
      replace Ra:=eq_true Ra
      go_wp2_with (first|((with_reducible refine gq 56 rfl ?_);refine gl (some 16) Tryz.func56 #[.agg #[.string ((aU aH dh).f0),.string ((aU aH dh).f1),.bool ((aU aH dh).f2)]] ?_;(with_reducible refine(eH.calls k1 ((aU aH dh).f0) ((aU aH dh).f1) ((aU aH dh).f2) false _ A5.out).mono ?_);rintro e DX ⟨rfl,hb⟩;refine⟨_,rfl,?_⟩;replace kW:=kb kW hb;replace HB:=ah.mk (ai (zb HB) hb);(try clear hb)))
      go_ret
      exact⟨ze,zb HB⟩
    ·rw[if_neg c4]at H
     exact absurd H (by simp)
   ·skip
    have c3b0:=decide_eq_false c3
    clear c3
    obtain⟨aeH,Yv,H⟩:=ob H
    (try dsimp only at H)
    by_cases c16:aeH=true
    ·subst c16
     rw[if_pos rfl]at H
     obtain⟨aeI,Xw,H⟩:=ob H
     (try dsimp only at H)
     obtain rfl:=Option.some.inj H
     obtain⟨TU,TY,U0,U1⟩:=c2 kW
     try go_wp2
     replace kW:=ah.mk (dw kW.out)
     replace HB:=ah.mk (dF HB.out)
     refine st 12 (b2 kW) (fun hHeld=>?_);refine bK bQ.tab6 bQ.bits6 (fun HT_ HW_=>?_)
     generalize wr.drew=w19 at kW HB hHeld ⊢
     refine pu 0 (some 26) (bm 12 1) rfl rfl ?_
     refine tk 1 (some 27) (bm 12 3) rfl rfl hHeld ?_
     refine iN (i:=2) (N:=some 28) (bm 12 7) rfl rfl (eG HT_.out (by kernel_rfl)) (by decide) (fun K hK=>?_)
     refine gs Tryz.func44 #[.int .i64 aA,.int .i64 0,.int .i64 64] ?_
     with_reducible refine(cK.calls aA 0 64 true _ Yv.out).mono ?_
     rintro e w' ⟨rfl,⟨nd,rfl⟩⟩
     refine⟨_,rfl,?_⟩
     refine hK.out _ _ (b2 kW) (fun hHeld=>?_)
     clear hK K
     refine nm ?_
     refine pu 3 (some 29) (bm 12 15) rfl rfl ?_
     refine pu 4 (some 30) (bm 12 31) rfl rfl ?_
     refine pu 7 (some 33) (bm 12 159) rfl rfl ?_
     refine tk 5 (some 31) (bm 12 191) rfl rfl hHeld ?_
     refine tk 8 (some 34) (bm 12 447) rfl rfl hHeld ?_
     refine iN (i:=6) (N:=some 32) (bm 12 511) rfl rfl (eG HT_.out (by kernel_rfl)) (by decide) (fun K hK=>?_)
     refine gs Tryz.func57 #[.slice j4 aH.length j5] ?_
     with_reducible refine(dA.calls k1 _ _ aH aeI _ ?aN ?aQ Xw.out).mono ?_
     (case aN=>exact(Kd.C_below lM.out (zb HB)))
     (case aQ=>exact pO.out)
     rintro e w20 ⟨rfl,hb⟩
     refine⟨_,rfl,?_⟩
     replace kW:=kb kW hb
     replace HB:=ah.mk (ai (zb HB) hb)
     (try clear hb)
     refine hK.out _ _ (b2 kW) (fun hHeld=>?_)
     clear hK K
     refine nm ?_
     refine pu 9 (some 35) (bm 12 1023) rfl rfl ?_
     refine pu 10 (some 36) (bm 12 2047) rfl rfl ?_
     refine pu 11 (some 2) (bm 12 4095) rfl rfl ?_
     refine lq (jC HT_.out (by kernel_rfl)) ?_
     try go_wp2
     go_ret
     exact⟨ze,zb HB⟩
    ·replace c16:=Bool.eq_false_iff.mpr c16
     subst c16
     rw[if_neg (show ¬(false=true) by decide)]at H
     obtain rfl:=Option.some.inj H
     obtain⟨Kq,Kr,UD,Kt⟩:=c2 kW
     try go_wp2
     replace kW:=ah.mk (dw kW.out)
     replace HB:=ah.mk (dF HB.out)
     refine st 12 (b2 kW) (fun hHeld=>?_);refine bK bQ.tab6 bQ.bits6 (fun HT_ HW_=>?_)
     generalize wr.drew=w22 at kW HB hHeld ⊢
     refine pu 0 (some 26) (bm 12 1) rfl rfl ?_
     refine tk 1 (some 27) (bm 12 3) rfl rfl hHeld ?_
     refine iN (i:=2) (N:=some 28) (bm 12 7) rfl rfl (eG HT_.out (by kernel_rfl)) (by decide) (fun K hK=>?_)
     refine gs Tryz.func44 #[.int .i64 aA,.int .i64 0,.int .i64 64] ?_
     with_reducible refine(cK.calls aA 0 64 false _ Yv.out).mono ?_
     rintro e w' ⟨rfl,⟨nd,rfl⟩⟩
     refine⟨_,rfl,?_⟩
     refine hK.out _ _ (b2 kW) (fun hHeld=>?_)
     clear hK K
     refine nm ?_
     refine pu 3 (some 29) (bm 12 15) rfl rfl ?_
     refine pv 4 (some 30) (bm 12 31) rfl rfl ?_
     refine pv 5 (some 31) (bm 12 63) rfl rfl ?_
     refine pv 6 (some 32) (bm 12 127) rfl rfl ?_
     refine pv 7 (some 33) (bm 12 255) rfl rfl ?_
     refine pv 8 (some 34) (bm 12 511) rfl rfl ?_
     refine pv 9 (some 35) (bm 12 1023) rfl rfl ?_
     refine pu 10 (some 36) (bm 12 2047) rfl rfl ?_
     refine pu 11 (some 2) (bm 12 4095) rfl rfl ?_
     refine lq (jC HT_.out (by kernel_rfl)) ?_
     try go_wp2
     go_ret
     exact⟨ze,zb HB⟩
def aM(w0 W:World)(g:Nat)(f0:List Int)(f1:Int):Prop:=∃A0 c0,W.heap[g]?=some (.cells #[.slice A0 f0.length c0,.int .i64 f1] 75 (0,0))∧w0.heap.size≤g∧Kd.C (Kd.int .u8) w0 A0 f0.length f0
theorem aM.grown{w0 W:World}{g:Nat}{f0:List Int}{f1:Int}{W1:World}{row:Option Nat}(h:aM w0 W g f0 f1)(hw:W.grownBy W1 row)(hne:some g≠row):aM w0 W1 g f0 f1:=by
 obtain⟨A0,c0,hb,hg,hr0⟩:=h
 exact⟨A0,c0,jL hb hw hne,hg,hr0⟩
theorem aM.fresh{w0 W:World}{g:Nat}{f0:List Int}{f1:Int}(h:aM w0 W g f0 f1):∀k,W.heap.size≤k→k≠g:=by
 obtain⟨A0,c0,hb,hg,hr0⟩:=h
 exact Kd.freshB hb
theorem aM.kept{w0 W:World}{g:Nat}{f0:List Int}{f1:Int}{W1:World}{S:Nat→Prop}(h:aM w0 W g f0 f1)(hk:Kept W W1 S)(hne:¬S g):aM w0 W1 g f0 f1:=by
 obtain⟨A0,c0,hb,hg,hr0⟩:=h
 exact⟨A0,c0,mZ hb hk hne,hg,hr0⟩
theorem aM.below{w0 W:World}{g:Nat}{f0:List Int}{f1:Int}{W1:World}(h:aM w0 W g f0 f1)(hw:Below W.heap.size W W1):aM w0 W1 g f0 f1:=h.grown (vU hw none) (by simp)
theorem aM.alloc{w0 W:World}{g:Nat}{f0:List Int}{f1:Int}(h:aM w0 W g f0 f1)(o:Obj):aM w0 (W.alloc o) g f0 f1:=h.below (eY (Below.refl _ _) o)
theorem aM.drewN{w0 W:World}{g:Nat}{f0:List Int}{f1:Int}(h:aM w0 W g f0 f1)(m:Nat):aM w0 (W.drewN m) g f0 f1:=h
theorem aM.drew{w0 W:World}{g:Nat}{f0:List Int}{f1:Int}(h:aM w0 W g f0 f1):aM w0 W.drew g f0 f1:=h
theorem aM.at_{w0 W:World}{g:Nat}{f0:List Int}{f1:Int}{w':World}{m:Nat}(hq:W.drewN m=w')(h:aM w0 W g f0 f1):aM w0 w' g f0 f1:=by subst hq;exact aM.drewN h m
theorem aM.apart{w0 W:World}{g:Nat}{f0:List Int}{f1:Int}{α:Type}{d:Kd α}{e:Nat}{base:Nat}{ok:Nat→Prop}{v:Value}{xs:List α}(h:aM w0 W g f0 f1)(ho:d.R e W base ok v xs)(ht:∀q,q∈e::d.E→q≠75):d.R e W base (fun k=>ok k∧k≠g) v xs:=by
 obtain⟨A0,c0,hb,hg,hr0⟩:=h
 exact Kd.R_types ho hb ht
theorem aM.own_ne{w0 W:World}{g:Nat}{f0:List Int}{f1:Int}{α:Type}{d:Kd α}{e:Nat}{base:Nat}{ok:Nat→Prop}{v:Value}{xs:List α}(h:aM w0 W g f0 f1)(ho:d.R e W base ok v xs)(ht:e≠75):some g≠v.ownBlock:=by
 obtain⟨A0,c0,hb,hg,hr0⟩:=h
 exact Kd.R_ne ho hb ht
theorem aM.lt{w0 W:World}{g:Nat}{f0:List Int}{f1:Int}(h:aM w0 W g f0 f1):g<W.heap.size:=by
 obtain⟨A0,c0,hb,hg,hr0⟩:=h
 exact gJ hb
theorem aM.ge{w0 W:World}{g:Nat}{f0:List Int}{f1:Int}(h:aM w0 W g f0 f1):w0.heap.size≤g:=by
 obtain⟨A0,c0,hb,hg,hr0⟩:=h
 exact hg
theorem aM.far{w0 W:World}{g:Nat}{f0:List Int}{f1:Int}{p:Addr}(h:aM w0 W g f0 f1)(hne:g≠p.block)(u:Value):aM w0 (W.setCell p u) g f0 f1:=by
 obtain⟨A0,c0,hb,hg,hr0⟩:=h
 exact⟨A0,c0,TG hb hne u,hg,hr0⟩
theorem xC{W:World}{g:Nat}{A0:Option Addr}{c0:Nat}{f0:List Int}{f1:Int}(h:W.heap[g]?=some (.cells #[.slice A0 f0.length c0,.int .i64 f1] 75 (0,0))):W.cell? ⟨g,0,none⟩=some (.slice A0 f0.length c0):=(ak h 0).trans rfl
theorem xD{W:World}{g:Nat}{A0:Option Addr}{c0:Nat}{f0:List Int}{f1:Int}(h:W.heap[g]?=some (.cells #[.slice A0 f0.length c0,.int .i64 f1] 75 (0,0))):W.cell? ⟨g,1,none⟩=some (.int .i64 f1):=(ak h 1).trans rfl
theorem aM.set_1{w0 W:World}{g:Nat}{f0:List Int}{f1:Int}(h:aM w0 W g f0 f1)(x:Int):aM w0 (W.setCell ⟨g,1,none⟩ (.int .i64 x)) g f0 x:=by
 obtain⟨A0,c0,hb,hg,hr0⟩:=h
 exact⟨A0,c0,by simpa using TF hb 1 (.int .i64 x),hg,hr0⟩
theorem aM.new(w0 W:World)(A0:Option Addr)(c0:Nat)(f0:List Int)(f1:Int)(hB:Below w0.heap.size w0 W)(hr0:Kd.C (Kd.int .u8) w0 A0 f0.length f0):aM w0 (W.alloc (.cells #[.slice A0 f0.length c0,.int .i64 f1] 75)) W.heap.size f0 f1:=⟨A0,c0,by simpa using heap_alloc_new W _,hB.size,hr0⟩
theorem eF{w0 W0 W:World}{g:Nat}{f0 e0:List Int}{f1 e1:Int}(h0:ah (aM w0 W0 g e0 e1))(h:aM w0 W g f0 f1:=by repeat(with_reducible first|exact ah.out (by assumption)|apply aM.alloc|apply aM.drewN|apply aM.drew|apply aM.set_1|refine aM.far ?_ (ah.out (by assumption)) _)):aM w0 W g f0 f1:=h
theorem gL{n:Nat}{w W0 W:World}(h0:ah (Below n w W0))(h:Below n w W:=by repeat(first|(with_reducible first|exact HB.out|apply eY|apply dY|apply dF|refine oJ ?_ (ah.out (by assumption))|refine oJ ?_ (aM.ge (ah.out (by assumption))))|exact HB.out)):Below n w W:=h
def pQ.f(l0:List Int):Option (List Int×Int):=if(l0.length:Int)>2000 then(if 2000≤(l0.length:Int)then(some (l0.take 2000,0))else(none))else(some (l0,0))
theorem pQ.calls(A0:Option Addr)(c0:Nat)(l0:List Int)(r1:List Int)(r2:Int)(w0 w:World)(hB:Below w0.heap.size w0 w)(hr0:Kd.C (Kd.int .u8) w0 A0 l0.length l0)(hc0:l0.length≤c0)(h:pQ.f l0=some (r1,r2)):
 Calls Tryz.prog 20 #[.slice A0 l0.length c0] w fun e w'=>∃g_:Nat,e= .returned (.pointer (some ⟨g_,0,none⟩))∧aM w0 w' g_ r1 r2∧Below w0.heap.size w0 w'∧Below w.heap.size w w':=by
 have aQk:=Tryz.underlying75
 have En:=ah.mk hr0
 have Z7:=ah.mk hc0
 clear hr0 hc0
 have HBW:=ah.mk (Below.refl w.heap.size w)
 have HW0:=ah.mk hB.size
 have HB:=ah.mk hB
 clear hB
 have H:(if(l0.length:Int)>2000 then(if 2000≤(l0.length:Int)then(some (l0.take 2000,0))else(none))else(some (l0,0)))=some (r1,r2):=h
 clear h
 replace H:=sp H
 rcases H with⟨c2,H⟩|⟨c2,H⟩
 ·skip
  have c2b0:=decide_eq_true c2
  have c2b1:=decide_eq_true (by omega)
  clear c2
  by_cases c3:2000≤(l0.length:Int)
  ·rw[if_pos c3]at H
   have c3b0:=eq_true c3
   have c3b1:=decide_eq_true c3
   clear c3
   simp only[Option.some.injEq,Prod.mk.injEq]at H
   obtain⟨rfl,rfl⟩:=H
   obtain⟨i04,als,_,alu,_⟩:=info_parts info5
   obtain⟨aLP,hA4,hC4⟩:=Hu (P:=Tryz.prog) (Value.int .u8) 0 22 5 .i64 Tryz.underlying22 als alu A0 c0 l0 2000 (by omega) (of_decide_eq_true za) Z7.out
   have alv:=ah.mk (Kd.C_of_reads (h1:=fun _=>rfl) (hA4 _ (Kd.reads_of_C En.out)))
   have aLS:=ah.mk hC4
   clear hA4 hC4 als alu
   go_enter Tryz.func20,Tryz.ntmps20
   go_wp2_with (first|((with_reducible refine gd 10 rfl ?_);refine bx (N:=10) (cs:=#[.slice A0 (l0.take 2000).length c0,.int .i64 0]) (t:=75) ?_;intro V6 hg w5 hbox hb;replace HB:=ah.mk (ai (zb HB) hb);have alx:=ah.mk (hbox);have aly:=ah.mk ((by rw[hg];exact(aJ (by repeat(first|(with_reducible first|exact HBW.out|apply eY|apply dY|apply dF)|exact HBW.out))):w.heap.size≤V6));have alz:=ah.mk ((Nat.le_trans HW0.out (by rw[hg];exact(aJ (by repeat(first|(with_reducible first|exact HBW.out|apply eY|apply dY|apply dF)|exact HBW.out))):w.heap.size≤V6):w0.heap.size≤V6));replace HBW:=ah.mk (ai HBW.out hb);clear hb hbox hg))
   go_ret
   exact⟨_,rfl,(show aM w0 _ V6 (l0.take 2000) 0 from⟨_,_,by(with_reducible repeat(first|refine wZ ?_ _|refine dw ?_|refine wY ?_ _));exact alx.out,alz.out,alv.out⟩),zb HB,by repeat(first|(with_reducible first|exact HBW.out|apply eY|apply dY|apply dF|refine oJ ?_ aly.out)|exact HBW.out)⟩
  ·rw[if_neg c3]at H
   exact absurd H (by simp)
 ·skip
  have c2b0:=decide_eq_false c2
  have c2b1:=decide_eq_false (by omega)
  clear c2
  simp only[Option.some.injEq,Prod.mk.injEq]at H
  obtain⟨rfl,rfl⟩:=H
  go_enter Tryz.func20,Tryz.ntmps20
  go_wp2_with (first|((with_reducible refine gd 10 rfl ?_);refine bx (N:=10) (cs:=#[.slice A0 l0.length c0,.int .i64 0]) (t:=75) ?_;intro V7 hg w6 hbox hb;replace HB:=ah.mk (ai (zb HB) hb);have alA:=ah.mk (hbox);have alB:=ah.mk ((by rw[hg];exact(aJ (by repeat(first|(with_reducible first|exact HBW.out|apply eY|apply dY|apply dF)|exact HBW.out))):w.heap.size≤V7));have alC:=ah.mk ((Nat.le_trans HW0.out (by rw[hg];exact(aJ (by repeat(first|(with_reducible first|exact HBW.out|apply eY|apply dY|apply dF)|exact HBW.out))):w.heap.size≤V7):w0.heap.size≤V7));replace HBW:=ah.mk (ai HBW.out hb);clear hb hbox hg))
  go_ret
  exact⟨_,rfl,(show aM w0 _ V7 l0 0 from⟨_,_,by(with_reducible repeat(first|refine wZ ?_ _|refine dw ?_|refine wY ?_ _));exact alA.out,alC.out,En.out⟩),zb HB,by repeat(first|(with_reducible first|exact HBW.out|apply eY|apply dY|apply dF|refine oJ ?_ alB.out)|exact HBW.out)⟩
def au.j0:Nat→Int→Bool→List Int→Int→Option (Int×Int)
 |0,_,_,_,_=>none
 |k+1,x1,x24,x1000,kH=>if x24=true then(some (0,kH))else(if(wrap64 (kH-1))<(x1000.length:Int)then(if 0≤(wrap64 (kH-1))then(if x1=0 then(none)else(some (Int.tmod (wrap64 (rd x1000 (wrap64 (kH-1)))) x1,kH)))else(none))else(if(x1000.length:Int)=0 then(none)else(if 0≤(Int.tmod (wrap64 (kH-1)) (x1000.length:Int))then(if(Int.tmod (wrap64 (kH-1)) (x1000.length:Int))<(x1000.length:Int)then(if 0≤(Int.tmod (wrap64 ((wrap64 ((wrap64 (kH-1))*7))+3)) (x1000.length:Int))then(if(Int.tmod (wrap64 ((wrap64 ((wrap64 (kH-1))*7))+3)) (x1000.length:Int))<(x1000.length:Int)then(if x1=0 then(none)else(some (Int.tmod (Go.bits .xor .i64 (wrap64 ((wrap64 ((wrap64 ((wrap64 ((wrap64 (rd x1000 (Int.tmod (wrap64 (kH-1)) (x1000.length:Int))))*131))+(wrap64 ((wrap64 (rd x1000 (Int.tmod (wrap64 ((wrap64 ((wrap64 (kH-1))*7))+3)) (x1000.length:Int))))*1117))))+(wrap64 ((wrap64 (kH-1))*29))))+(wrap64 ((wrap64 (Int.tdiv (wrap64 (kH-1)) (x1000.length:Int)))*53)))) (wrap64 (Int.tdiv (wrap64 ((wrap64 ((wrap64 ((wrap64 ((wrap64 (rd x1000 (Int.tmod (wrap64 (kH-1)) (x1000.length:Int))))*131))+(wrap64 ((wrap64 (rd x1000 (Int.tmod (wrap64 ((wrap64 ((wrap64 (kH-1))*7))+3)) (x1000.length:Int))))*1117))))+(wrap64 ((wrap64 (kH-1))*29))))+(wrap64 ((wrap64 (Int.tdiv (wrap64 (kH-1)) (x1000.length:Int)))*53)))) 64))) x1,kH)))else(none))else(none))else(none))else(none))))
def au.f(k:Nat)(bN:List Int)(gy:Int)(a1:Int):Option (Int×Int):=if a1<1 then(au.j0 k a1 true bN (wrap64 (gy+1)))else(au.j0 k a1 ((bN.length:Int)==0) bN (wrap64 (gy+1)))
theorem au.mono_l:∀k,(∀y0 y1 y2 y3,gM (au.j0 k y0 y1 y2 y3) (au.j0 (k+1) y0 y1 y2 y3))
 |0=>fun _ _ _ _ r h=>by simp[au.j0]at h
 |k+1=>by
  have mW:=au.mono_l k
  ·intro y0 y1 y2 y3
   unfold au.j0
   exact zm
theorem au.mono:∀a0 a1 a2 k,gM (au.f k a0 a1 a2) (au.f (k+1) a0 a1 a2):=by
 intro a0 a1 a2 k
 have mW:=au.mono_l k
 unfold au.f
 exact zm
theorem au.calls(k:Nat)(g:Nat)(bN:List Int)(gy:Int)(a1:Int)(r1:Int)(r2:Int)(w0 w:World)(hI:aM w0 w g bN gy)(hB:Below w0.heap.size w0 w)(h:au.f k bN gy a1=some (r1,r2)):
 Calls Tryz.prog 22 #[.pointer (some ⟨g,0,none⟩),.int .i64 a1] w fun e w'=>e= .returned (.int .i64 r1)∧aM w0 w' g bN r2∧Below w0.heap.size w0 w'∧ax w w' g none:=by
 have HI0:=ah.mk hI
 have HK:=ah.mk (ax.refl w g none)
 have HL:=ah.mk hB.size
 clear hI
 have HW0:=ah.mk hB.size
 have HB:=ah.mk hB
 clear hB
 have H:(if a1<1 then(au.j0 k a1 true bN (wrap64 (gy+1)))else(au.j0 k a1 ((bN.length:Int)==0) bN (wrap64 (gy+1))))=some (r1,r2):=h
 clear h
 have HC3:=ah.mk H
 clear H
 obtain⟨aCu,aCv,a8x,aCw,aCx⟩:=HI0.out
 have qK:=xC a8x
 have qL:=xD a8x
 have qM:=aj a8x 1
 clear a8x aCw
 go_enter Tryz.func22,Tryz.ntmps22
 go_upto_region 2 with(fail)
 repeat(go_quiet (fail);go_upto_region 2 with(fail))
 go_cut [24] (fun v24 wc=>∃(kq:Nat)(V8:Bool),v24= .bool V8∧ah (au.j0 kq a1 V8 bN (wrap64 (gy+1))=some (r1,r2))∧ah (kq≤k)∧ah (aM w0 wc g bN (wrap64 (gy+1)))∧ah (ax w wc g none)∧ah (Below w0.heap.size w0 wc))
 case first=>
  have H:=HC3.out
  clear HC3
  replace H:=sp H
  rcases H with⟨c5,H⟩|⟨c5,H⟩
  ·skip
   have c5b0:=decide_eq_true c5
   clear c5
   (first|rw[c5b0]|rw[c5b1]|rw[c5b2]|(simp only[gI,iB];rw[c5b0])|skip)
   have H':=ah.mk H
   clear H
   go_wp2
   repeat(go_quiet (fail);try go_wp2)
   go_meet
   case rel=>exact⟨_,(true),zs,H',⟨by first|omega|exact Nat.le_refl _⟩,⟨eF HI0⟩,⟨zh HK⟩,⟨gL HB⟩⟩
  ·skip
   have c5b0:=decide_eq_false c5
   clear c5
   (first|rw[c5b0]|rw[c5b1]|rw[c5b2]|(simp only[gI,iB];rw[c5b0])|skip)
   have H':=ah.mk H
   clear H
   obtain⟨aCy,aCz,a8y,aCA,aCB⟩:=HI0.out
   have FN:=xC a8y
   have FO:=xD a8y
   have FP:=aj a8y 1
   clear a8y aCA
   go_wp2
   repeat(go_quiet (fail);try go_wp2)
   go_meet
   case rel=>exact⟨_,(((bN.length:Int)==0)),zs,H',⟨by first|omega|exact Nat.le_refl _⟩,⟨eF HI0⟩,⟨zh HK⟩,⟨gL HB⟩⟩
 case rest=>
  clear HC3
  try clear c2
  try clear p2
  try clear c5
  try clear c5b0
  try clear c5b1
  try clear c5b2
  try clear p6
  try clear qK
  try clear qL
  try clear FN
  try clear FO
  try clear qM
  try clear FP
  obtain⟨kq,V8,rfl,HA,HJ2,HI0,HK,HB⟩:=hcut
  cases kq with
  |zero=>exact absurd HA.out (by simp[au.j0])
  |succ kj2=>
   have H:=HA.out
   clear HA
   simp only[au.j0]at H
   by_cases c7:V8=true
   ·subst c7
    rw[if_pos rfl]at H
    simp only[Option.some.injEq,Prod.mk.injEq]at H
    obtain⟨rfl,rfl⟩:=H
    go_wp2
    repeat(go_quiet (fail);try go_wp2)
    go_ret
    exact⟨ze,eF HI0,gL HB,zh HK⟩
   ·replace c7:=Bool.eq_false_iff.mpr c7
    subst c7
    rw[if_neg (show ¬(false=true) by decide)]at H
    replace H:=sp H
    rcases H with⟨c8,H⟩|⟨c8,H⟩
    ·skip
     have c8b0:=decide_eq_true c8
     clear c8
     obtain⟨ji9,a0K⟩:∃j_:Int,(wrap64 ((wrap64 (gy+1))-1))=j_:=⟨_,rfl⟩
     replace H:(if 0≤(ji9)then(if a1=0 then(none)else(some (Int.tmod (wrap64 (rd bN (ji9))) a1,(wrap64 (gy+1)))))else(none))=some (r1,r2):=by first|(rw[a0K]at H;exact H)|(simp only[a0K]at H ⊢;exact H)
     (try rw[a0K]at c8b0)
     have hji9w:(IntKind.i64.wrap ((wrap64 (gy+1))-1))=ji9:=(gI _).trans a0K
     by_cases c10:0≤(ji9)
     ·rw[if_pos c10]at H
      have c10b0:=decide_eq_true c10
      clear c10
      by_cases c11:a1=0
      ·rw[if_pos c11]at H
       exact absurd H (by simp)
      ·rw[if_neg c11]at H
       have c11b0:(a1==0)=false:=beq_eq_false_iff_ne.mpr c11
       have c11b1:(a1 != 0)=true:=bne_iff_ne.mpr c11
       simp only[Option.some.injEq,Prod.mk.injEq]at H
       obtain⟨rfl,rfl⟩:=H
       obtain⟨auu,auv,V9,alE,a8z⟩:=HI0.out
       have UJ:=xC V9
       have UK:=xD V9
       have UL:=aj V9 1
       clear V9 alE
       have aeN:0≤((ji9):Int):=of_decide_eq_true za
       have aeO:(ji9)<(bN.length:Int):=of_decide_eq_true za
       obtain⟨aLT,aCC,Va⟩:=Kd.at_int a8z (ji9) aeN aeO
       cases aCC
       replace Va:=jZ HB.out Va
       replace aeN:=eq_true aeN
       replace aeO:=eq_true aeO
       go_wp2
       repeat(go_quiet (fail);try go_wp2)
       go_ret
       exact⟨by first|rfl|(simp[gY,gZ]<;>rfl)|(simp only[←a0K];first|rfl|(simp[gY,gZ]<;>rfl))|(simp[*,gY,gZ]<;>rfl)|(simp[gY,gZ];exact(by intro l_;cases l_<;>rfl:∀l_:List UInt8,l_.isEmpty= !(l_ != [])) _),eF HI0,gL HB,zh HK⟩
     ·rw[if_neg c10]at H
      exact absurd H (by simp)
    ·skip
     have c8b0:=decide_eq_false c8
     clear c8
     replace H:=sp H
     rcases H with⟨c13,H⟩|⟨c13,H⟩
     ·skip
      exact absurd H (by simp)
     ·skip
      have c13b0:((bN.length:Int)==0)=false:=beq_eq_false_iff_ne.mpr c13
      have c13b1:((bN.length:Int) != 0)=true:=bne_iff_ne.mpr c13
      have c13b2:¬(bN=[]):=fun h_=>c13 (by rw[h_];rfl)
      obtain⟨Hy,a0L⟩:∃j_:Int,(Int.tmod (wrap64 ((wrap64 (gy+1))-1)) (bN.length:Int))=j_:=⟨_,rfl⟩
      replace H:(if 0≤(Hy)then(if(Hy)<(bN.length:Int)then(if 0≤(Int.tmod (wrap64 ((wrap64 ((wrap64 ((wrap64 (gy+1))-1))*7))+3)) (bN.length:Int))then(if(Int.tmod (wrap64 ((wrap64 ((wrap64 ((wrap64 (gy+1))-1))*7))+3)) (bN.length:Int))<(bN.length:Int)then(if a1=0 then(none)else(some (Int.tmod (Go.bits .xor .i64 (wrap64 ((wrap64 ((wrap64 ((wrap64 ((wrap64 (rd bN (Hy)))*131))+(wrap64 ((wrap64 (rd bN (Int.tmod (wrap64 ((wrap64 ((wrap64 ((wrap64 (gy+1))-1))*7))+3)) (bN.length:Int))))*1117))))+(wrap64 ((wrap64 ((wrap64 (gy+1))-1))*29))))+(wrap64 ((wrap64 (Int.tdiv (wrap64 ((wrap64 (gy+1))-1)) (bN.length:Int)))*53)))) (wrap64 (Int.tdiv (wrap64 ((wrap64 ((wrap64 ((wrap64 ((wrap64 (rd bN (Hy)))*131))+(wrap64 ((wrap64 (rd bN (Int.tmod (wrap64 ((wrap64 ((wrap64 ((wrap64 (gy+1))-1))*7))+3)) (bN.length:Int))))*1117))))+(wrap64 ((wrap64 ((wrap64 (gy+1))-1))*29))))+(wrap64 ((wrap64 (Int.tdiv (wrap64 ((wrap64 (gy+1))-1)) (bN.length:Int)))*53)))) 64))) a1,(wrap64 (gy+1)))))else(none))else(none))else(none))else(none))=some (r1,r2):=by first|(rw[a0L]at H;exact H)|(simp only[a0L]at H ⊢;exact H)
      replace H:=sp H
      rcases H with⟨c15,H⟩|⟨c15,H⟩
      ·skip
       have c15b0:=decide_eq_true c15
       clear c15
       by_cases c16:(Hy)<(bN.length:Int)
       ·rw[if_pos c16]at H
        have c16b0:=decide_eq_true c16
        clear c16
        obtain⟨KN,a0M⟩:∃j_:Int,(Int.tmod (wrap64 ((wrap64 ((wrap64 ((wrap64 (gy+1))-1))*7))+3)) (bN.length:Int))=j_:=⟨_,rfl⟩
        replace H:(if 0≤(KN)then(if(KN)<(bN.length:Int)then(if a1=0 then(none)else(some (Int.tmod (Go.bits .xor .i64 (wrap64 ((wrap64 ((wrap64 ((wrap64 ((wrap64 (rd bN (Hy)))*131))+(wrap64 ((wrap64 (rd bN (KN)))*1117))))+(wrap64 ((wrap64 ((wrap64 (gy+1))-1))*29))))+(wrap64 ((wrap64 (Int.tdiv (wrap64 ((wrap64 (gy+1))-1)) (bN.length:Int)))*53)))) (wrap64 (Int.tdiv (wrap64 ((wrap64 ((wrap64 ((wrap64 ((wrap64 (rd bN (Hy)))*131))+(wrap64 ((wrap64 (rd bN (KN)))*1117))))+(wrap64 ((wrap64 ((wrap64 (gy+1))-1))*29))))+(wrap64 ((wrap64 (Int.tdiv (wrap64 ((wrap64 (gy+1))-1)) (bN.length:Int)))*53)))) 64))) a1,(wrap64 (gy+1)))))else(none))else(none))=some (r1,r2):=by first|(rw[a0M]at H;exact H)|(simp only[a0M]at H ⊢;exact H)
        by_cases c18:0≤(KN)
        ·rw[if_pos c18]at H
         have c18b0:=decide_eq_true c18
         clear c18
         by_cases c19:(KN)<(bN.length:Int)
         ·rw[if_pos c19]at H
          have c19b0:=decide_eq_true c19
          clear c19
          by_cases c20:a1=0
          ·rw[if_pos c20]at H
           exact absurd H (by simp)
          ·rw[if_neg c20]at H
           have c20b0:(a1==0)=false:=beq_eq_false_iff_ne.mpr c20
           have c20b1:(a1 != 0)=true:=bne_iff_ne.mpr c20
           simp only[Option.some.injEq,Prod.mk.injEq]at H
           obtain⟨rfl,rfl⟩:=H
           obtain⟨auw,auy,Vb,alF,Vd⟩:=HI0.out
           have Kq:=xC Vb
           have Kr:=xD Vb
           have Kt:=aj Vb 1
           clear Vb alF
           have aeP:0≤((Hy):Int):=of_decide_eq_true za
           have aeQ:(Hy)<(bN.length:Int):=of_decide_eq_true za
           obtain⟨alG,aCD,Ve⟩:=Kd.at_int Vd (Hy) aeP aeQ
           cases aCD
           replace Ve:=jZ HB.out Ve
           replace aeP:=eq_true aeP
           replace aeQ:=eq_true aeQ
           have aeR:0≤((KN):Int):=of_decide_eq_true za
           have aeS:(KN)<(bN.length:Int):=of_decide_eq_true za
           obtain⟨alH,e152,Vf⟩:=Kd.at_int Vd (KN) aeR aeS
           obtain rfl:alG=alH:=(by injection e152)
           replace Vf:=jZ HB.out Vf
           replace aeR:=eq_true aeR
           replace aeS:=eq_true aeS
           go_wp2
           repeat(go_quiet (fail);try go_wp2)
           go_ret
           exact⟨by first|rfl|(simp[gY,gZ]<;>rfl)|(simp only[←a0L,←a0M];first|rfl|(simp[gY,gZ]<;>rfl))|(simp[*,gY,gZ]<;>rfl)|(simp[gY,gZ];exact(by intro l_;cases l_<;>rfl:∀l_:List UInt8,l_.isEmpty= !(l_ != [])) _),eF HI0,gL HB,zh HK⟩
         ·rw[if_neg c19]at H
          exact absurd H (by simp)
        ·rw[if_neg c18]at H
         exact absurd H (by simp)
       ·rw[if_neg c16]at H
        exact absurd H (by simp)
      ·skip
       exact absurd H (by simp)
def sP.f:Option ((List (bf))×Int):=some ((([]:List (bf))),64)
theorem sP.calls(r1:List (bf))(r2:Int)(w:World)(h:sP.f=some (r1,r2)):
 Calls Tryz.prog 86 #[] w fun e w'=>∃vM:Value,e= .returned (.agg #[vM,.int .i64 r2])∧Kd.R iH 89 w' w.heap.size (fun _=>True) vM r1∧Below w.heap.size w w':=by
 have Ab:=Tryz.underlying25
 have HB:=ah.mk (Below.refl w.heap.size w)
 have H:(some ((([]:List (bf))),64))=some (r1,r2):=h
 clear h
 obtain⟨alI,Nf⟩:∃y_:List (bf),y_=(([]:List (bf))):=⟨_,rfl⟩
 replace H:(some (alI,64))=some (r1,r2):=by first|(rw[Nf];with_reducible exact H)|(have fH:=(Option.bind_some _ _).symm.trans H;rw[Nf];with_reducible exact fH)|(have fH:=(Option.bind_some _ _).symm.trans H;with_reducible exact fH)|with_reducible exact H|(rw[Nf];exact H)|exact H
 have abT:=ah.mk Nf
 clear Nf
 simp only[Option.some.injEq,Prod.mk.injEq]at H
 obtain⟨rfl,rfl⟩:=H
 go_enter Tryz.func86,Tryz.ntmps86
 go_wp2_with (first|((with_reducible refine gd 0 rfl ?_);refine bx (N:=0) (cs:=#[.slice none 0 0,.int .i64 0]) (t:=25) ?_;intro alJ hg w1 hbox hb;have Ng:=ah.mk (hbox);have alK:=gw HB hg;have aLU:=alK;replace HB:=ah.mk (ai (zb HB) hb);clear hb hbox hg)|((with_reducible refine gd 1 rfl ?_);refine Kd.R_lit iH _ 89 ?hg (N:=1) ?hd (xs:=([]:List (bf))) (inner:=[]) (ok:=fun _=>True) (okp:=fun _=>True) ?hr ?hp (fun _ hk=>hk) trivial (Below.refl _ _) (Nat.le_refl _) (by simp) ?_;(case hd=>rfl);(case hg=>rfl);(case hr=>first|(go_simp;done)|(go_simp;rfl));(case hp=>exact(dm.none _ _));intro aQl w2 ho3 hb nL fM;clear nL fM;(first|rw[←abT.out]at ho3|(simp only[Int.reduceToNat]at ho3;rw[←abT.out]at ho3));have abU:=ah.mk (Kd.R_lower ho3 (aJ (zb HB)));replace Ng:=kb Ng hb;replace HB:=ah.mk (ai (zb HB) hb);clear hb ho3;obtain⟨Ao4,co4,eo4⟩:=Kd.R_slice abU.out;subst eo4;obtain⟨aeA,aeB,aeC,aeD⟩:=c2 Ng))
 refine bodyPost_ret (results_cell_row rfl _ _ alJ 25 #[.slice Ao4 alI.length co4,.int .i64 64] (0,0) _ rfl (zp Ng) Tryz.underlying25 rfl (by kernel_rfl)) rfl ?_
 exact⟨_,ze,(Kd.R_mono (qj (Kd.R_types abU.out Ng.out (by decide))) (fun _ hk=>trivial)),zb HB⟩
def bX.f(k:Nat)(bN:List Int)(gy:Int)(l1:List ByteArray):Option (ByteArray×Int):=(au.f k bN gy (l1.length:Int)).bind fun Af=>(if 0≤Af.1 then(if Af.1<(l1.length:Int)then(some (MG ByteArray.empty l1 Af.1,Af.2))else(none))else(none))
theorem bX.mono:∀a0 a1 a2 k,gM (bX.f k a0 a1 a2) (bX.f (k+1) a0 a1 a2):=by
 intro a0 a1 a2 k
 unfold bX.f
 have m0:=@au.mono
 exact zm
theorem bX.calls(k:Nat)(g:Nat)(bN:List Int)(gy:Int)(A1:Option Addr)(c1:Nat)(l1:List ByteArray)(r1:ByteArray)(r2:Int)(w0 w:World)(hI:aM w0 w g bN gy)(hB:Below w0.heap.size w0 w)(hr1:Kd.C Kd.string w A1 l1.length l1)(hc1:l1.length≤c1)(hf1:∀ad,A1=some ad→0<l1.length→ad.block≠g)(h:bX.f k bN gy l1=some (r1,r2)):
 Calls Tryz.prog 80 #[.pointer (some ⟨g,0,none⟩),.slice A1 l1.length c1] w fun e w'=>e= .returned (.string r1)∧aM w0 w' g bN r2∧Below w0.heap.size w0 w'∧ax w w' g none:=by
 have HR1:=ah.mk hr1
 have HC1:=ah.mk hc1
 clear hr1 hc1
 have HI0:=ah.mk hI
 have HK:=ah.mk (ax.refl w g none)
 have HL:=ah.mk hB.size
 clear hI
 have HW0:=ah.mk hB.size
 have HB:=ah.mk hB
 clear hB
 have H:((au.f k bN gy (l1.length:Int)).bind fun Af=>(if 0≤Af.1 then(if Af.1<(l1.length:Int)then(some (MG ByteArray.empty l1 Af.1,Af.2))else(none))else(none)))=some (r1,r2):=h
 clear h
 obtain⟨⟨a0N,t212⟩,A3,H⟩:=ob H
 (try dsimp only at H)
 replace H:=sp H
 rcases H with⟨c4,H⟩|⟨c4,H⟩
 ·skip
  have c4b0:=decide_eq_true c4
  clear c4
  by_cases c5:a0N<(l1.length:Int)
  ·rw[if_pos c5]at H
   have c5b0:=decide_eq_true c5
   clear c5
   simp only[Option.some.injEq,Prod.mk.injEq]at H
   obtain⟨rfl,rfl⟩:=H
   go_enter Tryz.func80,Tryz.ntmps80
   go_wp2_with (first|((with_reducible refine gq 22 rfl ?_);refine gl (some 9) Tryz.func22 #[.pointer (some ⟨g,0,none⟩),.int .i64 (l1.length:Int)] ?_;(with_reducible refine(au.calls k g bN gy (l1.length:Int) a0N t212 w0 _ ?aN ?aQ A3.out).mono ?_);(case aN=>exact eF HI0);(case aQ=>exact gL HB);rintro e w6 ⟨rfl,hi,hb,hk⟩;refine⟨_,rfl,?_⟩;replace HK:=ah.mk (ax.trans (zh HK) hk (.inl rfl));replace HB:=ah.mk (hb);replace HI0:=ah.mk (hi);(try clear hb);(try clear hk);(try clear hi);have aeT:0≤(a0N:Int):=of_decide_eq_true za;have aeU:a0N<(l1.length:Int):=of_decide_eq_true za;obtain⟨alN,e213,Vg⟩:=Kd.at_string HR1.out a0N aeT aeU;cases e213;replace Vg:=BB HK.out Vg (by first|(rw[add_block];exact hf1 _ rfl (by omega))|exact hf1 _ rfl (by omega)|exact hf1 alN rfl (by omega));replace aeT:=eq_true aeT;replace aeU:=eq_true aeU))
   go_ret
   exact⟨ze,eF HI0,gL HB,zh HK⟩
  ·rw[if_neg c5]at H
   exact absurd H (by simp)
 ·skip
  exact absurd H (by simp)
def jK.f(k:Nat)(bN:List Int)(gy:Int):Option (ByteArray×Int):=(bX.f k bN gy (([(⟨#[47,101,99,104,111]⟩:ByteArray),(⟨#[47,101,99,104,111]⟩:ByteArray),(⟨#[47,117,112]⟩:ByteArray),(⟨#[47,117,112]⟩:ByteArray),(⟨#[47,108,101,110]⟩:ByteArray),(⟨#[47,110,111,110,101]⟩:ByteArray),(⟨#[]⟩:ByteArray)]:List ByteArray))).bind fun Dn=>(some (Dn.1,Dn.2))
theorem jK.mono:∀a0 a1 k,gM (jK.f k a0 a1) (jK.f (k+1) a0 a1):=by
 intro a0 a1 k
 unfold jK.f
 have m0:=@bX.mono
 exact zm
theorem jK.calls(k:Nat)(g:Nat)(bN:List Int)(gy:Int)(r1:ByteArray)(r2:Int)(w0 w:World)(hI:aM w0 w g bN gy)(hB:Below w0.heap.size w0 w)(h:jK.f k bN gy=some (r1,r2)):
 Calls Tryz.prog 69 #[.pointer (some ⟨g,0,none⟩)] w fun e w'=>e= .returned (.string r1)∧aM w0 w' g bN r2∧Below w0.heap.size w0 w'∧ax w w' g none:=by
 have HI0:=ah.mk hI
 have HK:=ah.mk (ax.refl w g none)
 have HL:=ah.mk hB.size
 clear hI
 have HW0:=ah.mk hB.size
 have HB:=ah.mk hB
 clear hB
 have H:((bX.f k bN gy (([(⟨#[47,101,99,104,111]⟩:ByteArray),(⟨#[47,101,99,104,111]⟩:ByteArray),(⟨#[47,117,112]⟩:ByteArray),(⟨#[47,117,112]⟩:ByteArray),(⟨#[47,108,101,110]⟩:ByteArray),(⟨#[47,110,111,110,101]⟩:ByteArray),(⟨#[]⟩:ByteArray)]:List ByteArray))).bind fun Dn=>(some (Dn.1,Dn.2)))=some (r1,r2):=h
 clear h
 obtain⟨aeV,Nh⟩:∃y_:List ByteArray,y_=(([(⟨#[47,101,99,104,111]⟩:ByteArray),(⟨#[47,101,99,104,111]⟩:ByteArray),(⟨#[47,117,112]⟩:ByteArray),(⟨#[47,117,112]⟩:ByteArray),(⟨#[47,108,101,110]⟩:ByteArray),(⟨#[47,110,111,110,101]⟩:ByteArray),(⟨#[]⟩:ByteArray)]:List ByteArray)):=⟨_,rfl⟩
 replace H:((bX.f k bN gy aeV).bind fun Dn=>(some (Dn.1,Dn.2)))=some (r1,r2):=by first|(rw[Nh];with_reducible exact H)|(have fH:=(Option.bind_some _ _).symm.trans H;rw[Nh];with_reducible exact fH)|(have fH:=(Option.bind_some _ _).symm.trans H;with_reducible exact fH)|with_reducible exact H|(rw[Nh];exact H)|exact H
 have abV:=ah.mk Nh
 clear Nh
 obtain⟨⟨aCF,t218⟩,A2,H⟩:=ob H
 (try dsimp only at H)
 simp only[Option.some.injEq,Prod.mk.injEq]at H
 obtain⟨rfl,rfl⟩:=H
 go_enter Tryz.func69,Tryz.ntmps69
 go_wp2_with (first|((with_reducible refine gd 4 rfl ?_);refine Kd.R_lit Kd.string _ 9 ?hg (N:=4) ?hd (xs:=([(⟨#[47,101,99,104,111]⟩:ByteArray),(⟨#[47,101,99,104,111]⟩:ByteArray),(⟨#[47,117,112]⟩:ByteArray),(⟨#[47,117,112]⟩:ByteArray),(⟨#[47,108,101,110]⟩:ByteArray),(⟨#[47,110,111,110,101]⟩:ByteArray),(⟨#[]⟩:ByteArray)]:List ByteArray)) (inner:=[.string (⟨#[47,101,99,104,111]⟩:ByteArray),.string (⟨#[47,101,99,104,111]⟩:ByteArray),.string (⟨#[47,117,112]⟩:ByteArray),.string (⟨#[47,117,112]⟩:ByteArray),.string (⟨#[47,108,101,110]⟩:ByteArray),.string (⟨#[47,110,111,110,101]⟩:ByteArray),.string (⟨#[]⟩:ByteArray)]) (ok:=fun _=>True) (okp:=fun _=>True) ?hr ?hp (fun _ hk=>hk) trivial (Below.refl _ _) (Nat.le_refl _) (by simp) ?_;(case hd=>rfl);(case hg=>rfl);(case hr=>first|(go_simp;done)|(go_simp;rfl));(case hp=>exact(dm.one (show Kd.M Kd.string _ _ _ (⟨#[47,101,99,104,111]⟩:ByteArray) [.string (⟨#[47,101,99,104,111]⟩:ByteArray)]from rfl) (dm.one (show Kd.M Kd.string _ _ _ (⟨#[47,101,99,104,111]⟩:ByteArray) [.string (⟨#[47,101,99,104,111]⟩:ByteArray)]from rfl) (dm.one (show Kd.M Kd.string _ _ _ (⟨#[47,117,112]⟩:ByteArray) [.string (⟨#[47,117,112]⟩:ByteArray)]from rfl) (dm.one (show Kd.M Kd.string _ _ _ (⟨#[47,117,112]⟩:ByteArray) [.string (⟨#[47,117,112]⟩:ByteArray)]from rfl) (dm.one (show Kd.M Kd.string _ _ _ (⟨#[47,108,101,110]⟩:ByteArray) [.string (⟨#[47,108,101,110]⟩:ByteArray)]from rfl) (dm.one (show Kd.M Kd.string _ _ _ (⟨#[47,110,111,110,101]⟩:ByteArray) [.string (⟨#[47,110,111,110,101]⟩:ByteArray)]from rfl) (dm.one (show Kd.M Kd.string _ _ _ (⟨#[]⟩:ByteArray) [.string (⟨#[]⟩:ByteArray)]from rfl) (dm.none _ _)))))))));intro aQm w3 Nk hb nL fM;clear nL fM;(first|rw[←abV.out]at Nk|(simp only[Int.reduceToNat]at Nk;rw[←abV.out]at Nk));have Io:=ah.mk (Kd.R_lower Nk (gG (w:=w) (g:=g) (row:=none) (zh HK)));replace HI0:=ah.mk (aM.below (eF HI0) hb);replace HK:=ah.mk (ax.trans (zh HK) (ax.of_below hb g none) (.inl rfl));replace HB:=ah.mk (ai (gL HB) hb);clear hb Nk;obtain⟨Ao5,co5,eo5⟩:=Kd.R_slice Io.out;subst eo5)|((with_reducible refine gq 80 rfl ?_);refine gl (some 5) Tryz.func80 #[.pointer (some ⟨g,0,none⟩),.slice Ao5 aeV.length co5] ?_;(with_reducible refine(bX.calls k g bN gy _ _ aeV aCF t218 w0 _ ?aN ?aQ ?Ag ?Ah ?Ai A2.out).mono ?_);(case aN=>exact eF HI0);(case aQ=>exact gL HB);(case Ag=>exact zc (Kd.R_reads' Io.out).2.2);(case Ah=>exact(Kd.R_reads' Io.out).2.1);(case Ai=>exact tJ (aM.own_ne HI0.out Io.out (by decide)));rintro e w6 ⟨rfl,hi,hb,hk⟩;refine⟨_,rfl,?_⟩;replace Io:=ah.mk (Kd.R_mono (Kd.R_keep (aM.apart (show aM w0 _ g bN gy from eF HI0) (zr Io) (by decide)) hk (fun _ h=>h.2)) (fun _ h=>h.1));replace HK:=ah.mk (ax.trans (zh HK) hk (.inl rfl));replace HB:=ah.mk (hb);replace HI0:=ah.mk (hi);(try clear hb);(try clear hk);(try clear hi)))
 go_ret
 exact⟨ze,eF HI0,gL HB,zh HK⟩
def dN.l0:Nat→ByteArray→Int→List Int→Int→Option (ByteArray×Int)
 |0,_,_,_,_=>none
 |k+1,x3,x4,x1000,kH=>if x4>0 then((bX.f k x1000 kH (([(⟨#[97]⟩:ByteArray),(⟨#[98]⟩:ByteArray),(⟨#[99]⟩:ByteArray),(⟨#[121]⟩:ByteArray),(⟨#[122]⟩:ByteArray),(⟨#[55]⟩:ByteArray)]:List ByteArray))).bind fun FY=>(if x3.size+FY.1.size≤9223372036854775807 then(dN.l0 k (x3++FY.1) (wrap64 (x4-1)) x1000 FY.2)else(none)))else(some (x3,kH))
def dN.f(k:Nat)(bN:List Int)(gy:Int):Option (ByteArray×Int):=(au.f k bN gy 17).bind fun Nl=>(dN.l0 k (⟨#[]⟩:ByteArray) Nl.1 bN Nl.2)
theorem dN.mono_l:∀k,(∀y0 y1 y2 y3,gM (dN.l0 k y0 y1 y2 y3) (dN.l0 (k+1) y0 y1 y2 y3))
 |0=>fun _ _ _ _ r h=>by simp[dN.l0]at h
 |k+1=>by
  have mW:=dN.mono_l k
  ·intro y0 y1 y2 y3
   unfold dN.l0
   have m0:=@bX.mono
   have m1:=@au.mono
   exact zm
theorem dN.mono:∀a0 a1 k,gM (dN.f k a0 a1) (dN.f (k+1) a0 a1):=by
 intro a0 a1 k
 have mW:=dN.mono_l k
 unfold dN.f
 have m0:=@bX.mono
 have m1:=@au.mono
 exact zm
theorem dN.calls(k:Nat)(g:Nat)(bN:List Int)(gy:Int)(r1:ByteArray)(r2:Int)(w0 w:World)(hI:aM w0 w g bN gy)(hB:Below w0.heap.size w0 w)(h:dN.f k bN gy=some (r1,r2)):
 Calls Tryz.prog 70 #[.pointer (some ⟨g,0,none⟩)] w fun e w'=>e= .returned (.string r1)∧aM w0 w' g bN r2∧Below w0.heap.size w0 w'∧ax w w' g none:=by
 have HI0:=ah.mk hI
 have HK:=ah.mk (ax.refl w g none)
 have HL:=ah.mk hB.size
 clear hI
 have HW0:=ah.mk hB.size
 have HB:=ah.mk hB
 clear hB
 have H:((au.f k bN gy 17).bind fun Nl=>(dN.l0 k (⟨#[]⟩:ByteArray) Nl.1 bN Nl.2))=some (r1,r2):=h
 clear h
 obtain⟨⟨alO,alP⟩,A2,H⟩:=ob H
 (try dsimp only at H)
 have H':=ah.mk H
 clear H
 go_enter Tryz.func70,Tryz.ntmps70
 go_wp2_with (first|((with_reducible refine gq 22 rfl ?_);refine gl (some 6) Tryz.func22 #[.pointer (some ⟨g,0,none⟩),.int .i64 17] ?_;(with_reducible refine(au.calls k g bN gy 17 alO alP w0 _ ?aN ?aQ A2.out).mono ?_);(case aN=>exact eF HI0);(case aQ=>exact gL HB);rintro e w3 ⟨rfl,hi,hb,hk⟩;refine⟨_,rfl,?_⟩;replace HK:=ah.mk (ax.trans (zh HK) hk (.inl rfl));replace HB:=ah.mk (hb);replace HI0:=ah.mk (hi);(try clear hb);(try clear hk);(try clear hi)))
 go_loopg [3,4] k (fun kq v3 v4 w'=>∃(dh:ByteArray)(eB:Int)(iD:Int),v3= .string dh∧v4= .int .i64 eB∧ah (dN.l0 kq dh eB bN iD=some (r1,r2))∧ah (kq≤k)∧ah (aM w0 w' g bN iD)∧ah (ax w w' g none)∧ah (Below w0.heap.size w0 w'))
 case atStart=>exact⟨((⟨#[]⟩:ByteArray)),(alO),(alP),zs,zs,H',⟨Nat.le_refl _⟩,⟨eF HI0⟩,⟨zh HK⟩,⟨gL HB⟩⟩
 case round=>
  clear H'
  try clear c2
  try clear p2
  obtain⟨dh,eB,iD,rfl,rfl,HA,jd,HI0,HK,HB⟩:=hrel
  cases gk with
  |zero=>exact absurd HA.out (by simp[dN.l0])
  |succ k1=>
   have H:=HA.out
   clear HA
   simp only[dN.l0]at H
   replace H:=sp H
   rcases H with⟨c4,H⟩|⟨c4,H⟩
   ·skip
    have c4b0:=decide_eq_true c4
    clear c4
    obtain⟨aeY,Nn⟩:∃y_:List ByteArray,y_=(([(⟨#[97]⟩:ByteArray),(⟨#[98]⟩:ByteArray),(⟨#[99]⟩:ByteArray),(⟨#[121]⟩:ByteArray),(⟨#[122]⟩:ByteArray),(⟨#[55]⟩:ByteArray)]:List ByteArray)):=⟨_,rfl⟩
    replace H:((bX.f k1 bN iD aeY).bind fun FY=>(if dh.size+FY.1.size≤9223372036854775807 then(dN.l0 k1 (dh++FY.1) (wrap64 (eB-1)) bN FY.2)else(none)))=some (r1,r2):=by first|(rw[Nn];with_reducible exact H)|(have fH:=(Option.bind_some _ _).symm.trans H;rw[Nn];with_reducible exact fH)|(have fH:=(Option.bind_some _ _).symm.trans H;with_reducible exact fH)|with_reducible exact H|(rw[Nn];exact H)|exact H
    have abW:=ah.mk Nn
    clear Nn
    obtain⟨⟨a8A,alQ⟩,A5,H⟩:=ob H
    (try dsimp only at H)
    by_cases c6:dh.size+a8A.size≤9223372036854775807
    ·rw[if_pos c6]at H
     have c6b0:=eq_true c6
     have c6b1:=decide_eq_true c6
     try have c6b2:(9223372036854775807<dh.size+a8A.size)=False:=eq_false (Nat.not_lt.2 c6)
     have H':=ah.mk H
     clear H
     go_wp2_with (first|((with_reducible refine gd 13 rfl ?_);refine Kd.R_lit Kd.string _ 9 ?hg (N:=13) ?hd (xs:=([(⟨#[97]⟩:ByteArray),(⟨#[98]⟩:ByteArray),(⟨#[99]⟩:ByteArray),(⟨#[121]⟩:ByteArray),(⟨#[122]⟩:ByteArray),(⟨#[55]⟩:ByteArray)]:List ByteArray)) (inner:=[.string (⟨#[97]⟩:ByteArray),.string (⟨#[98]⟩:ByteArray),.string (⟨#[99]⟩:ByteArray),.string (⟨#[121]⟩:ByteArray),.string (⟨#[122]⟩:ByteArray),.string (⟨#[55]⟩:ByteArray)]) (ok:=fun _=>True) (okp:=fun _=>True) ?hr ?hp (fun _ hk=>hk) trivial (Below.refl _ _) (Nat.le_refl _) (by simp) ?_;(case hd=>rfl);(case hg=>rfl);(case hr=>first|(go_simp;done)|(go_simp;rfl));(case hp=>exact(dm.one (show Kd.M Kd.string _ _ _ (⟨#[97]⟩:ByteArray) [.string (⟨#[97]⟩:ByteArray)]from rfl) (dm.one (show Kd.M Kd.string _ _ _ (⟨#[98]⟩:ByteArray) [.string (⟨#[98]⟩:ByteArray)]from rfl) (dm.one (show Kd.M Kd.string _ _ _ (⟨#[99]⟩:ByteArray) [.string (⟨#[99]⟩:ByteArray)]from rfl) (dm.one (show Kd.M Kd.string _ _ _ (⟨#[121]⟩:ByteArray) [.string (⟨#[121]⟩:ByteArray)]from rfl) (dm.one (show Kd.M Kd.string _ _ _ (⟨#[122]⟩:ByteArray) [.string (⟨#[122]⟩:ByteArray)]from rfl) (dm.one (show Kd.M Kd.string _ _ _ (⟨#[55]⟩:ByteArray) [.string (⟨#[55]⟩:ByteArray)]from rfl) (dm.none _ _))))))));intro v222 w7 ho8 hb nL fM;clear nL fM;(first|rw[←abW.out]at ho8|(simp only[Int.reduceToNat]at ho8;rw[←abW.out]at ho8));have Ip:=ah.mk (Kd.R_lower ho8 (gG (w:=w) (g:=g) (row:=none) (zh HK)));replace HI0:=ah.mk (aM.below (eF HI0) hb);replace HK:=ah.mk (ax.trans (zh HK) (ax.of_below hb g none) (.inl rfl));replace HB:=ah.mk (ai (gL HB) hb);clear hb ho8;obtain⟨Ao9,co9,eo9⟩:=Kd.R_slice Ip.out;subst eo9)|((with_reducible refine gq 80 rfl ?_);refine gl (some 14) Tryz.func80 #[.pointer (some ⟨g,0,none⟩),.slice Ao9 aeY.length co9] ?_;(with_reducible refine(bX.calls k1 g bN iD _ _ aeY a8A alQ w0 _ ?aN ?aQ ?Ag ?Ah ?Ai A5.out).mono ?_);(case aN=>exact eF HI0);(case aQ=>exact gL HB);(case Ag=>exact zc (Kd.R_reads' Ip.out).2.2);(case Ah=>exact(Kd.R_reads' Ip.out).2.1);(case Ai=>exact tJ (aM.own_ne HI0.out Ip.out (by decide)));rintro e w10 ⟨rfl,hi,hb,hk⟩;refine⟨_,rfl,?_⟩;replace Ip:=ah.mk (Kd.R_mono (Kd.R_keep (aM.apart (show aM w0 _ g bN iD from eF HI0) (zr Ip) (by decide)) hk (fun _ h=>h.2)) (fun _ h=>h.1));replace HK:=ah.mk (ax.trans (zh HK) hk (.inl rfl));replace HB:=ah.mk (hb);replace HI0:=ah.mk (hi);(try clear hb);(try clear hk);(try clear hi)))
     go_roundg k1
     case measure=>have:=jd.out;omega
     case rel=>exact⟨(dh++a8A),(wrap64 (eB-1)),(alQ),zs,zs,H',⟨by have:=jd.out;omega⟩,⟨eF HI0⟩,⟨zh HK⟩,⟨gL HB⟩⟩
    ·rw[if_neg c6]at H
     exact absurd H (by simp)
   ·skip
    have c4b0:=decide_eq_false c4
    clear c4
    simp only[Option.some.injEq,Prod.mk.injEq]at H
    obtain⟨rfl,rfl⟩:=H
    go_wp2
    go_ret
    exact⟨ze,eF HI0,gL HB,zh HK⟩
def eX.l0:Nat→Int→Int→Bool→List (bf)→Int→List (bf)→Int→ByteArray→List (uF)→Int→Int→List (jS)→Bool→Option (Int)
 |0,_,_,_,_,_,_,_,_,_,_,_,_,_=>none
 |k+1,x1,x5,a8B,a8C,a8D,a8E,a8F,a8G,KO,a8H,a8I,a8J,a8K=>if x5<(KO.length:Int)then(if 0≤x5 then(if((fV KO x5).f0)=x1 then(some x5)else(eX.l0 k x1 (wrap64 (x5+1)) a8B a8C a8D a8E a8F a8G KO a8H a8I a8J a8K))else(none))else(some (-1))
def eX.f(k:Nat)(aY:Bool)(FZ:List (bf))(dP:Int)(G5:List (bf))(lT:Int)(lU:ByteArray)(vN:List (uF))(Np:Int)(jo:Int)(G6:List (jS))(gW:Bool)(a1:Int):Option (Int):=eX.l0 k a1 0 aY FZ dP G5 lT lU vN Np jo G6 gW
theorem eX.mono_l:∀k,(∀y0 y1 y2 y3 y4 y5 y6 y7 y8 y9 oH y11 y12,gM (eX.l0 k y0 y1 y2 y3 y4 y5 y6 y7 y8 y9 oH y11 y12) (eX.l0 (k+1) y0 y1 y2 y3 y4 y5 y6 y7 y8 y9 oH y11 y12))
 |0=>fun _ _ _ _ _ _ _ _ _ _ _ _ _ r h=>by simp[eX.l0]at h
 |k+1=>by
  have mW:=eX.mono_l k
  ·intro y0 y1 y2 y3 y4 y5 y6 y7 y8 y9 oH y11 y12
   unfold eX.l0
   exact zm
theorem eX.mono:∀a0 a1 a2 a3 a4 a5 a6 a7 a8 a9 MZ R6 k,gM (eX.f k a0 a1 a2 a3 a4 a5 a6 a7 a8 a9 MZ R6) (eX.f (k+1) a0 a1 a2 a3 a4 a5 a6 a7 a8 a9 MZ R6):=by
 intro a0 a1 a2 a3 a4 a5 a6 a7 a8 a9 MZ R6 k
 have mW:=eX.mono_l k
 unfold eX.f
 exact zm
theorem eX.calls(k:Nat)(aY:Bool)(a8L:Option Addr)(a8M:Nat)(FZ:List (bf))(dP:Int)(a8N:Option Addr)(a8O:Nat)(G5:List (bf))(lT:Int)(lU:ByteArray)(a8P:Option Addr)(a8Q:Nat)(vN:List (uF))(Np:Int)(jo:Int)(a8R:Option Addr)(a8S:Nat)(G6:List (jS))(gW:Bool)(a1:Int)(r:Int)(w:World)(abX:Kd.C iH w a8L FZ.length FZ)(abY:FZ.length≤a8M)(abZ:Kd.C iH w a8N G5.length G5)(ac0:G5.length≤a8O)(ac1:Kd.C k39 w a8P vN.length vN)(ac2:vN.length≤a8Q)(ac3:Kd.C R4 w a8R G6.length G6)(ac4:G6.length≤a8S)(h:eX.f k aY FZ dP G5 lT lU vN Np jo G6 gW a1=some r):
 Calls Tryz.prog 49 #[.agg #[.bool aY,.slice a8L FZ.length a8M,.int .i64 dP,.slice a8N G5.length a8O,.int .i64 lT,.string lU,.slice a8P vN.length a8Q,.int .i64 Np,.int .i64 jo,.slice a8R G6.length a8S,.bool gW],.int .i64 a1] w fun e w'=>e= .returned (.int .i64 r)∧Below w.heap.size w w':=by
 have aQn:=Tryz.underlying31
 have aLW:=ah.mk abX
 have aLX:=ah.mk abY
 clear abX abY
 have aLY:=ah.mk abZ
 have aLZ:=ah.mk ac0
 clear abZ ac0
 have ac5:=ah.mk ac1
 have aM0:=ah.mk ac2
 clear ac1 ac2
 have aM1:=ah.mk ac3
 have aM2:=ah.mk ac4
 clear ac3 ac4
 have HB:=ah.mk (Below.refl w.heap.size w)
 have H:(eX.l0 k a1 0 aY FZ dP G5 lT lU vN Np jo G6 gW)=some r:=h
 clear h
 have H':=ah.mk H
 clear H
 go_enter Tryz.func49,Tryz.ntmps49
 go_wp2_with (first|((with_reducible refine gd 2 rfl ?_);refine bx (N:=2) (cs:=#[.bool aY,.slice a8L FZ.length a8M,.int .i64 dP,.slice a8N G5.length a8O,.int .i64 lT,.string lU,.slice a8P vN.length a8Q,.int .i64 Np,.int .i64 jo,.slice a8R G6.length a8S,.bool gW]) (t:=31) ?_;intro alR hg w3 hbox hb;have Iq:=ah.mk (hbox);have alS:=gw HB hg;have aM3:=alS;replace HB:=ah.mk (ai (zb HB) hb);clear hb hbox hg))
 go_loopg [5] k (fun kq v5 w'=>∃(fP:Int),v5= .int .i64 fP∧ah (eX.l0 kq a1 fP aY FZ dP G5 lT lU vN Np jo G6 gW=some r)∧ah (kq≤k)∧ah (w'.heap[alR]?=some (.cells #[.bool aY,(.slice a8L FZ.length a8M),.int .i64 dP,(.slice a8N G5.length a8O),.int .i64 lT,.string lU,(.slice a8P vN.length a8Q),.int .i64 Np,.int .i64 jo,(.slice a8R G6.length a8S),.bool gW] 31 (0,0)))∧ah (Below w.heap.size w w'))
 case atStart=>exact⟨(0),zs,H',⟨Nat.le_refl _⟩,⟨by exact zk Iq⟩,⟨zb HB⟩⟩
 case round=>
  clear H'
  try clear p2
  obtain⟨fP,rfl,HA,jd,Iq,HB⟩:=hrel
  cases gk with
  |zero=>exact absurd HA.out (by simp[eX.l0])
  |succ k1=>
   have H:=HA.out
   clear HA
   simp only[eX.l0]at H
   replace H:=sp H
   rcases H with⟨c4,H⟩|⟨c4,H⟩
   ·skip
    have c4b0:=decide_eq_true c4
    clear c4
    by_cases c5:0≤fP
    ·rw[if_pos c5]at H
     have c5b0:=decide_eq_true c5
     clear c5
     by_cases c6:((fV vN fP).f0)=a1
     ·rw[if_pos c6]at H
      have c6b0:(((fV vN fP).f0)==a1)=true:=beq_iff_eq.mpr c6
      have c6b1:(((fV vN fP).f0) != a1)=false:=bne_eq_false_iff_eq.mpr c6
      clear c6
      obtain rfl:=Option.some.inj H
      obtain⟨yQ,yR,a0j,aCJ,aCK,aCL,aCM,aCN,aCO,aCP,auz,yS,yT,a0k,aCQ,aCR,aCS,aCT,aCU,aCV,aCW,auA⟩:=c11 Iq
      have Rb:0≤(fP:Int):=of_decide_eq_true za
      have Rc:fP<(vN.length:Int):=of_decide_eq_true za
      obtain⟨alT,af0,af2,af3,af4,af5,Aj,Ak,Al,Am,Ao,Ap,Ar,Av,Aw,Ay,wh,wm,Az,AA,AB,AJ⟩:=YU ac5.out fP Rb Rc
      cases af5
      replace Aj:=pX Aj HB
      replace Ak:=pX Ak HB
      replace Al:=pX Al HB
      replace Am:=pX Am HB
      replace Ao:=pX Ao HB
      replace Ap:=pX Ap HB
      replace Ar:=pX Ar HB
      replace Av:=pX Av HB
      replace Aw:=pX Aw HB
      replace Ay:=pX Ay HB
      replace wh:=pX wh HB
      replace wm:=pX wm HB
      have a8T:=ah.mk AA
      have a8U:=ah.mk Az
      clear AA Az
      have a8V:=ah.mk AJ
      have a8W:=ah.mk AB
      clear AJ AB
      replace Rb:=eq_true Rb
      replace Rc:=eq_true Rc
      go_wp2
      go_ret
      exact⟨ze,zb HB⟩
     ·rw[if_neg c6]at H
      have c6b0:(((fV vN fP).f0)==a1)=false:=beq_eq_false_iff_ne.mpr c6
      have c6b1:(((fV vN fP).f0) != a1)=true:=bne_iff_ne.mpr c6
      have H':=ah.mk H
      clear H
      obtain⟨BK,BL,af6,af7,af8,af9,afa,afb,afc,afd,a8X,BM,BN,afe,aff,afg,afh,afi,afj,afk,afl,a8Y⟩:=c11 Iq
      have Rb:0≤(fP:Int):=of_decide_eq_true za
      have Rc:fP<(vN.length:Int):=of_decide_eq_true za
      obtain⟨alT,af0,af2,af3,af4,af5,Aj,Ak,Al,Am,Ao,Ap,Ar,Av,Aw,Ay,wh,wm,Az,AA,AB,AJ⟩:=YU ac5.out fP Rb Rc
      cases af5
      replace Aj:=pX Aj HB
      replace Ak:=pX Ak HB
      replace Al:=pX Al HB
      replace Am:=pX Am HB
      replace Ao:=pX Ao HB
      replace Ap:=pX Ap HB
      replace Ar:=pX Ar HB
      replace Av:=pX Av HB
      replace Aw:=pX Aw HB
      replace Ay:=pX Ay HB
      replace wh:=pX wh HB
      replace wm:=pX wm HB
      have a8T:=ah.mk AA
      have a8U:=ah.mk Az
      clear AA Az
      have a8V:=ah.mk AJ
      have a8W:=ah.mk AB
      clear AJ AB
      replace Rb:=eq_true Rb
      replace Rc:=eq_true Rc
      go_wp2
      go_roundg k1
      case measure=>have:=jd.out;omega
      case rel=>exact⟨(wrap64 (fP+1)),zs,H',⟨by have:=jd.out;omega⟩,⟨by exact zk Iq⟩,⟨zb HB⟩⟩
    ·rw[if_neg c5]at H
     exact absurd H (by simp)
   ·skip
    have c4b0:=decide_eq_false c4
    clear c4
    obtain rfl:=Option.some.inj H
    obtain⟨yM,yN,BO,a04,afm,afn,afo,afp,afq,afr,a8Z,yO,yP,BP,a05,afs,aft,afu,afv,afw,afx,a90⟩:=c11 Iq
    go_wp2
    go_ret
    exact⟨ze,zb HB⟩
def dK.f:Nat→Int→Option (ByteArray)
 |0,_=>none
 |k+1,a0=>if a0<(-9223372036854775807)then(some (⟨#[45,57,50,50,51,51,55,50,48,51,54,56,53,52,55,55,53,56,48,56]⟩:ByteArray))else(if a0<0 then((dK.f k (wrap64 (-a0))).bind fun KP=>(if 1+KP.size≤9223372036854775807 then(some ((⟨#[45]⟩:ByteArray)++KP))else(none)))else(if a0<10 then(some (strOfNums (([(wrap64 (48+a0))%256]:List Int))))else((dK.f k (wrap64 (Int.tdiv a0 10))).bind fun BQ=>((some (([(wrap64 (48+(Int.tmod a0 10)))%256]:List Int):List Int)).bind fun DY=>(if BQ.size+(strOfNums DY).size≤9223372036854775807 then(some (BQ++(strOfNums DY)))else(none))))))
theorem dK.mono_l:∀k,(∀y0,gM (dK.f k y0) (dK.f (k+1) y0))
 |0=>fun _ r h=>by simp[dK.f]at h
 |k+1=>by
  have mW:=dK.mono_l k
  ·intro y0
   unfold dK.f
   exact zm
theorem dK.mono:∀a0 k,gM (dK.f k a0) (dK.f (k+1) a0):=by
 intro a0 k
 have mW:=dK.mono_l k
 exact mW a0
def dK.T7:Bool×List (List Nat×List Nat):=(true,[([],[]),([0],[0]),([1],[1]),([],[]),([3],[3]),([4],[4]),([5],[5]),([6],[6]),([7],[7]),([2,8],[2,8]),([9,2,0,1,2,3,4,5,6,7,8,9],[9])])
def dK.B7:List Nat:=[0,1,3,0,8,24,56,120,248,511,1023]
theorem dK.tab7:jG .any (opsOf Tryz.f87 7)=dK.T7:=by kernel_rfl
theorem dK.bits7:fQ dK.T7.2 dK.B7=true:=by kernel_rfl
theorem dK.calls(k:Nat):∀(a0:Int)(r:ByteArray)(w:World)(h:dK.f k a0=some r),
 Calls Tryz.prog 87 #[.int .i64 a0] w fun e w'=>e= .returned (.string r)∧Below w.heap.size w w':=by
 induction k using Nat.strongRecOn with
 |_ k ih=>
 intro a0 r w h
 cases k with
 |zero=>exact absurd h (by simp[dK.f])
 |succ k=>
 simp only[dK.f]at h
 have HB:=ah.mk (Below.refl w.heap.size w)
 have H:(if a0<(-9223372036854775807)then(some (⟨#[45,57,50,50,51,51,55,50,48,51,54,56,53,52,55,55,53,56,48,56]⟩:ByteArray))else(if a0<0 then((dK.f k (wrap64 (-a0))).bind fun KP=>(if 1+KP.size≤9223372036854775807 then(some ((⟨#[45]⟩:ByteArray)++KP))else(none)))else(if a0<10 then(some (strOfNums (([(wrap64 (48+a0))%256]:List Int))))else((dK.f k (wrap64 (Int.tdiv a0 10))).bind fun BQ=>((some (([(wrap64 (48+(Int.tmod a0 10)))%256]:List Int):List Int)).bind fun DY=>(if BQ.size+(strOfNums DY).size≤9223372036854775807 then(some (BQ++(strOfNums DY)))else(none)))))))=some r:=h
 clear h
 replace H:=sp H
 rcases H with⟨c2,H⟩|⟨c2,H⟩
 ·skip
  have c2b0:=decide_eq_true c2
  clear c2
  obtain rfl:=Option.some.inj H
  go_enter Tryz.func87,Tryz.ntmps87
  go_wp2
  go_ret
  exact⟨ze,zb HB⟩
 ·skip
  have c2b0:=decide_eq_false c2
  clear c2
  replace H:=sp H
  rcases H with⟨c3,H⟩|⟨c3,H⟩
  ·skip
   have c3b0:=decide_eq_true c3
   clear c3
   obtain⟨KP,A4,H⟩:=ob H
   (try dsimp only at H)
   by_cases c5:1+KP.size≤9223372036854775807
   ·rw[if_pos c5]at H
    have c5b0:=eq_true c5
    have c5b1:=decide_eq_true c5
    try have c5b2:(9223372036854775807<1+KP.size)=False:=eq_false (Nat.not_lt.2 c5)
    obtain rfl:=Option.some.inj H
    go_enter Tryz.func87,Tryz.ntmps87
    go_wp2_with (first|((with_reducible refine gq 87 rfl ?_);refine gl (some 9) Tryz.func87 #[.int .i64 (wrap64 (-a0))] ?_;(with_reducible refine(ih k (by omega) (wrap64 (-a0)) KP _ A4.out).mono ?_);rintro e w6 ⟨rfl,hb⟩;refine⟨_,rfl,?_⟩;replace HB:=ah.mk (ai (zb HB) hb);(try clear hb)))
    go_ret
    exact⟨ze,zb HB⟩
   ·rw[if_neg c5]at H
    exact absurd H (by simp)
  ·skip
   have c3b0:=decide_eq_false c3
   clear c3
   replace H:=sp H
   rcases H with⟨c7,H⟩|⟨c7,H⟩
   ·skip
    have c7b0:=decide_eq_true c7
    clear c7
    obtain⟨aCX,Ns⟩:∃y_:List Int,y_=(([(wrap64 (48+a0))%256]:List Int)):=⟨_,rfl⟩
    replace H:(some (strOfNums aCX))=some r:=by first|(rw[Ns];with_reducible exact H)|(have fH:=(Option.bind_some _ _).symm.trans H;rw[Ns];with_reducible exact fH)|(have fH:=(Option.bind_some _ _).symm.trans H;with_reducible exact fH)|with_reducible exact H|(rw[Ns];exact H)|exact H
    have ac6:=ah.mk Ns
    clear Ns
    obtain rfl:=Option.some.inj H
    go_enter Tryz.func87,Tryz.ntmps87
    go_wp2_with (first|((with_reducible refine gd 16 rfl ?_);refine Kd.R_lit (Kd.int .u8) _ 5 ?hg (N:=16) ?hd (xs:=([(wrap64 (48+a0))%256]:List Int)) (inner:=[.int .u8 ((wrap64 (48+a0))%256)]) (ok:=fun _=>True) (okp:=fun _=>True) ?hr ?hp (fun _ hk=>hk) trivial (Below.refl _ _) (Nat.le_refl _) (by simp) ?_;(case hd=>rfl);(case hg=>rfl);(case hr=>first|(go_simp;done)|(go_simp;rfl));(case hp=>exact(dm.one (show Kd.M (Kd.int .u8) _ _ _ ((wrap64 (48+a0))%256) [.int .u8 ((wrap64 (48+a0))%256)]from rfl) (dm.none _ _)));intro aQo w8 Nt hb nL fM;clear nL fM;(first|rw[←ac6.out]at Nt|(simp only[Int.reduceToNat]at Nt;rw[←ac6.out]at Nt));have alU:=ah.mk (Kd.R_lower Nt (aJ (zb HB)));replace HB:=ah.mk (ai (zb HB) hb);clear hb Nt;have alV:=lW (P:=Tryz.prog) Tryz.underlying22 Tryz.underlying5 Tryz.underlying9 (Kd.own_of_R alU.out)))
    go_ret
    exact⟨ze,zb HB⟩
   ·skip
    have c7b0:=decide_eq_false c7
    clear c7
    obtain⟨BQ,A11,H⟩:=ob H
    (try dsimp only at H)
    obtain⟨DY,Nu⟩:∃y_:List Int,y_=(([(wrap64 (48+(Int.tmod a0 10)))%256]:List Int)):=⟨_,rfl⟩
    replace H:(if BQ.size+(strOfNums DY).size≤9223372036854775807 then(some (BQ++(strOfNums DY)))else(none))=some r:=by first|(rw[Nu];with_reducible exact H)|(have fH:=(Option.bind_some _ _).symm.trans H;rw[Nu];with_reducible exact fH)|(have fH:=(Option.bind_some _ _).symm.trans H;with_reducible exact fH)|with_reducible exact H|(rw[Nu];exact H)|exact H
    have Vh:=ah.mk Nu
    clear Nu
    replace H:=sp H
    rcases H with⟨c12,H⟩|⟨c12,H⟩
    ·skip
     have c12b0:=eq_true c12
     have c12b1:=decide_eq_true c12
     try have c12b2:(9223372036854775807<BQ.size+(strOfNums DY).size)=False:=eq_false (Nat.not_lt.2 c12)
     obtain rfl:=Option.some.inj H
     go_enter Tryz.func87,Tryz.ntmps87
     try go_wp2
     replace HB:=ah.mk (dF HB.out)
     refine uG (n:=11) (S:=fun w'=>True) (ds:=[]) #[false,false,false,false,false,false,false,false,false,false,false] (by kernel_rfl) rfl rfl trivial (fun hHeld=>?_);refine bK dK.tab7 dK.bits7 (fun HT_ HW_=>?_)
     generalize w.drew=w13 at HB hHeld ⊢
     refine pu 0 (some 18) (bm 11 1) rfl rfl ?_
     refine pu 1 (some 19) (bm 11 3) rfl rfl ?_
     refine pu 3 (some 21) (bm 11 11) rfl rfl ?_
     refine pu 4 (some 22) (bm 11 27) rfl rfl ?_
     refine pu 5 (some 23) (bm 11 59) rfl rfl ?_
     refine pu 6 (some 24) (bm 11 123) rfl rfl ?_
     refine abC (σ:=Value) 2 #[true,true,true,true,true,true,true,true,true,false,false] (fun s_=>[(20,.string BQ),(25,s_),(26,.string (strOfNums DY))]) (fun s_ w'=>(Kd.R (Kd.int .u8) 5 w' w.heap.size (fun _=>True) s_ DY)∧(Below w.heap.size w w')) ?_ ?_
     rotate_left
     ·intro hCont
      refine aea (i:=2) (j:=7) (Ni:=some 20) (Nj:=some 25) #[true,true,true,true,true,true,true,false,false,false,false] #[true,true,false,true,true,true,true,true,false,false,false] rfl rfl rfl rfl (R3 HT_.out (by kernel_rfl)) (by decide) (by decide) (fun K hK=>?_) (fun K hK=>?_)
      ·skip
       refine gs Tryz.func87 #[.int .i64 (wrap64 (Int.tdiv a0 10))] ?_
       with_reducible refine(ih k (by omega) (wrap64 (Int.tdiv a0 10)) BQ _ A11.out).mono ?_
       rintro e DX ⟨rfl,hb⟩
       refine⟨_,rfl,?_⟩
       replace HB:=ah.mk (ai (zb HB) hb)
       (try clear hb)
       refine hK.out _ _ trivial (fun hHeld=>?_)
       clear hK K
       refine nm ?_
       refine iN (i:=7) (N:=some 25) (bm 11 255) rfl rfl (eG HT_.out (by kernel_rfl)) (by decide) (fun K hK=>?_)
       refine Kd.R_lit_step (Kd.int .u8) _ 5 ?hg (N:=25) ?hd (xs:=([(wrap64 (48+(Int.tmod a0 10)))%256]:List Int)) (inner:=[.int .u8 ((wrap64 (48+(Int.tmod a0 10)))%256)]) (ok:=fun _=>True) (okp:=fun _=>True) ?hr ?hp (fun _ hk=>hk) trivial (Below.refl _ _) (Nat.le_refl _) (by simp) ?_;(case hd=>rfl);(case hg=>rfl);(case hr=>first|(go_simp;done)|(go_simp;rfl));(case hp=>exact(dm.one (show Kd.M (Kd.int .u8) _ _ _ ((wrap64 (48+(Int.tmod a0 10)))%256) [.int .u8 ((wrap64 (48+(Int.tmod a0 10)))%256)]from rfl) (dm.none _ _)))
       intro Xx w15 a0P hb nL fM
       clear nL fM
       (first|rw[←Vh.out]at a0P|(simp only[Int.reduceToNat]at a0P;rw[←Vh.out]at a0P))
       have vw:=ah.mk (Kd.R_lower a0P (aJ (zb HB)))
       replace HB:=ah.mk (ai (zb HB) hb)
       clear hb a0P
       refine hK.out _ _ trivial (fun hHeld=>?_)
       clear hK K
       refine nm ?_
       refine iN (i:=8) (N:=some 26) (bm 11 511) rfl rfl (eG HT_.out (by kernel_rfl)) (by decide) (fun K hK=>?_)
       have a0Q:=lW (P:=Tryz.prog) Tryz.underlying22 Tryz.underlying5 Tryz.underlying9 (Kd.own_of_R vw.out)
       refine QF (w1:=?_) (v:=?_) (by rfl) rfl ?_ ?_
       rotate_left 2
       ·go_simp
        constructor
        ·rfl
        ·rfl
       clear a0Q
       refine hK.out _ _ trivial (fun hHeld=>?_)
       clear hK K
       refine nm ?_
       exact Db (by simp only[sM,Act.put,s1,s2,s3]) (hCont (Xx) _ ⟨(zr vw),(zb HB)⟩)
      ·skip
       refine Kd.R_lit_step (Kd.int .u8) _ 5 ?hg (N:=25) ?hd (xs:=([(wrap64 (48+(Int.tmod a0 10)))%256]:List Int)) (inner:=[.int .u8 ((wrap64 (48+(Int.tmod a0 10)))%256)]) (ok:=fun _=>True) (okp:=fun _=>True) ?hr ?hp (fun _ hk=>hk) trivial (Below.refl _ _) (Nat.le_refl _) (by simp) ?_;(case hd=>rfl);(case hg=>rfl);(case hr=>first|(go_simp;done)|(go_simp;rfl));(case hp=>exact(dm.one (show Kd.M (Kd.int .u8) _ _ _ ((wrap64 (48+(Int.tmod a0 10)))%256) [.int .u8 ((wrap64 (48+(Int.tmod a0 10)))%256)]from rfl) (dm.none _ _)))
       intro Xx DX a0R hb nL fM
       clear nL fM
       (first|rw[←Vh.out]at a0R|(simp only[Int.reduceToNat]at a0R;rw[←Vh.out]at a0R))
       have vw:=ah.mk (Kd.R_lower a0R (aJ (zb HB)))
       replace HB:=ah.mk (ai (zb HB) hb)
       clear hb a0R
       refine hK.out _ _ trivial (fun hHeld=>?_)
       clear hK K
       refine nm ?_
       refine aea (i:=2) (j:=8) (Ni:=some 20) (Nj:=some 26) #[true,true,true,true,true,true,true,true,false,false,false] #[true,true,false,true,true,true,true,true,true,false,false] rfl rfl rfl rfl (R3 HT_.out (by kernel_rfl)) (by decide) (by decide) (fun K hK=>?_) (fun K hK=>?_)
       ·skip
        refine gs Tryz.func87 #[.int .i64 (wrap64 (Int.tdiv a0 10))] ?_
        with_reducible refine(ih k (by omega) (wrap64 (Int.tdiv a0 10)) BQ _ A11.out).mono ?_
        rintro e w16 ⟨rfl,hb⟩
        refine⟨_,rfl,?_⟩
        replace vw:=ah.mk (Kd.R_below (zr vw) hb)
        replace HB:=ah.mk (ai (zb HB) hb)
        (try clear hb)
        refine hK.out _ _ trivial (fun hHeld=>?_)
        clear hK K
        refine nm ?_
        refine iN (i:=8) (N:=some 26) (bm 11 511) rfl rfl (eG HT_.out (by kernel_rfl)) (by decide) (fun K hK=>?_)
        have a0Q:=lW (P:=Tryz.prog) Tryz.underlying22 Tryz.underlying5 Tryz.underlying9 (Kd.own_of_R vw.out)
        refine QF (w1:=?_) (v:=?_) (by rfl) rfl ?_ ?_
        rotate_left 2
        ·go_simp
         constructor
         ·rfl
         ·rfl
        clear a0Q
        refine hK.out _ _ trivial (fun hHeld=>?_)
        clear hK K
        refine nm ?_
        exact Db (by simp only[sM,Act.put,s1,s2,s3]) (hCont (Xx) _ ⟨(zr vw),(zb HB)⟩)
       ·skip
        have alW:=lW (P:=Tryz.prog) Tryz.underlying22 Tryz.underlying5 Tryz.underlying9 (Kd.own_of_R vw.out)
        refine QF (w1:=?_) (v:=?_) (by rfl) rfl ?_ ?_
        rotate_left 2
        ·go_simp
         constructor
         ·rfl
         ·rfl
        clear alW
        refine hK.out _ _ trivial (fun hHeld=>?_)
        clear hK K
        refine nm ?_
        refine iN (i:=2) (N:=some 20) (bm 11 511) rfl rfl (eG HT_.out (by kernel_rfl)) (by decide) (fun K hK=>?_)
        refine gs Tryz.func87 #[.int .i64 (wrap64 (Int.tdiv a0 10))] ?_
        with_reducible refine(ih k (by omega) (wrap64 (Int.tdiv a0 10)) BQ _ A11.out).mono ?_
        rintro e w17 ⟨rfl,hb⟩
        refine⟨_,rfl,?_⟩
        replace vw:=ah.mk (Kd.R_below (zr vw) hb)
        replace HB:=ah.mk (ai (zb HB) hb)
        (try clear hb)
        refine hK.out _ _ trivial (fun hHeld=>?_)
        clear hK K
        refine nm ?_
        exact Db (by simp only[sM,Act.put,s1,s2,s3]) (hCont (Xx) _ ⟨(zr vw),(zb HB)⟩)
     rintro Xx UM ⟨h0_,h1_⟩
     have tQ:ah (Kd.R (Kd.int .u8) 5 UM w.heap.size (fun _=>True) Xx DY):=⟨h0_⟩
     have tT:ah (Below w.heap.size w UM):=⟨h1_⟩
     clear HB
     clear h0_ h1_
     have vw:=tQ
     have HB:=tT
     clear tQ tT
     have hHeld:=trivial
     refine Db (a':=?_) ?_ ?_
     rotate_left
     ·simp only[sM,Act.put,s1,s2,s3]
      rfl
     refine pu 9 (some 27) (bm 11 1023) rfl rfl ?_
     refine pu 10 (some 2) (bm 11 2047) rfl rfl ?_
     refine lq (jC HT_.out (by kernel_rfl)) ?_
     try go_wp2
     go_ret
     exact⟨ze,zb HB⟩
    ·skip
     exact absurd H (by simp)
def wu.f(a0:Int):Option (Int×Int×(List (bf))×ByteArray×Bool×Bool×Int×(List (bf))×ByteArray×Bool×Int×Int):=some (a0,1,(([]:List (bf))),(⟨#[]⟩:ByteArray),false,false,0,(([]:List (bf))),(⟨#[]⟩:ByteArray),false,8,8)
theorem wu.calls(a0:Int)(r1:Int)(r2:Int)(r3:List (bf))(r4:ByteArray)(r5:Bool)(r6:Bool)(r7:Int)(r8:List (bf))(r9:ByteArray)(Yw:Bool)(Yx:Int)(Yy:Int)(w:World)(h:wu.f a0=some (r1,r2,r3,r4,r5,r6,r7,r8,r9,Yw,Yx,Yy)):
 Calls Tryz.prog 88 #[.int .i64 a0] w fun e w'=>∃v2_ v7_:Value,e= .returned (.agg #[.int .i64 r1,.int .i64 r2,v2_,.string r4,.bool r5,.bool r6,.int .i64 r7,v7_,.string r9,.bool Yw,.int .i64 Yx,.int .i64 Yy])∧Kd.R iH 89 w' w.heap.size (fun k_=>some k_≠(v7_:Value).ownBlock) v2_ r3∧Kd.R iH 89 w' w.heap.size (fun k_=>some k_≠(v2_:Value).ownBlock) v7_ r8∧Below w.heap.size w w':=by
 have aer:=Tryz.underlying39
 have a4t:=Tryz.underlying28
 have HB:=ah.mk (Below.refl w.heap.size w)
 have H:(some (a0,1,(([]:List (bf))),(⟨#[]⟩:ByteArray),false,false,0,(([]:List (bf))),(⟨#[]⟩:ByteArray),false,8,8))=some (r1,r2,r3,r4,r5,r6,r7,r8,r9,Yw,Yx,Yy):=h
 clear h
 obtain⟨afz,Nv⟩:∃y_:List (bf),y_=(([]:List (bf))):=⟨_,rfl⟩
 replace H:(some (a0,1,afz,(⟨#[]⟩:ByteArray),false,false,0,(([]:List (bf))),(⟨#[]⟩:ByteArray),false,8,8))=some (r1,r2,r3,r4,r5,r6,r7,r8,r9,Yw,Yx,Yy):=by first|(rw[Nv];with_reducible exact H)|(have fH:=(Option.bind_some _ _).symm.trans H;rw[Nv];with_reducible exact fH)|(have fH:=(Option.bind_some _ _).symm.trans H;with_reducible exact fH)|with_reducible exact H|(rw[Nv];exact H)|exact H
 have ac7:=ah.mk Nv
 clear Nv
 obtain⟨alZ,Nw⟩:∃y_:List (bf),y_=(([]:List (bf))):=⟨_,rfl⟩
 replace H:(some (a0,1,afz,(⟨#[]⟩:ByteArray),false,false,0,alZ,(⟨#[]⟩:ByteArray),false,8,8))=some (r1,r2,r3,r4,r5,r6,r7,r8,r9,Yw,Yx,Yy):=by first|(rw[Nw];with_reducible exact H)|(have fH:=(Option.bind_some _ _).symm.trans H;rw[Nw];with_reducible exact fH)|(have fH:=(Option.bind_some _ _).symm.trans H;with_reducible exact fH)|with_reducible exact H|(rw[Nw];exact H)|exact H
 have ac8:=ah.mk Nw
 clear Nw
 simp only[Option.some.injEq,Prod.mk.injEq]at H
 obtain⟨rfl,rfl,rfl,rfl,rfl,rfl,rfl,rfl,rfl,rfl,rfl,rfl⟩:=H
 go_enter Tryz.func88,Tryz.ntmps88
 go_wp2_with (first|((with_reducible refine gd 2 rfl ?_);refine bx (N:=2) (cs:=#[.int .i64 0,.int .i64 0,.slice none 0 0,.string (⟨#[]⟩:ByteArray),.bool false,.bool false,.int .i64 0,.slice none 0 0,.string (⟨#[]⟩:ByteArray),.bool false,.int .i64 0,.int .i64 0]) (t:=39) ?_;intro am0 hg w2 hbox hb;have Dp:=ah.mk (hbox);have am1:=gw HB hg;have aM4:=am1;replace HB:=ah.mk (ai (zb HB) hb);clear hb hbox hg)|((with_reducible refine gd 4 rfl ?_);refine Kd.R_lit iH _ 89 ?hg (N:=4) ?hd (xs:=([]:List (bf))) (inner:=[]) (ok:=fun _=>True) (okp:=fun _=>True) ?hr ?hp (fun _ hk=>hk) trivial (Below.refl _ _) (Nat.le_refl _) (by simp) ?_;(case hd=>rfl);(case hg=>rfl);(case hr=>first|(go_simp;done)|(go_simp;rfl));(case hp=>exact(dm.none _ _));intro aQp w3 Nk hb nL fM;clear nL fM;(first|rw[←ac7.out]at Nk|(simp only[Int.reduceToNat]at Nk;rw[←ac7.out]at Nk));have Ny:=ah.mk (Kd.R_lower Nk (aJ (zb HB)));replace Dp:=kb Dp hb;replace HB:=ah.mk (ai (zb HB) hb);clear hb Nk)|((with_reducible refine gd 5 rfl ?_);refine Kd.R_lit iH _ 89 ?hg (N:=5) ?hd (xs:=([]:List (bf))) (inner:=[]) (ok:=fun _=>True) (okp:=fun _=>True) ?hr ?hp (fun _ hk=>hk) trivial (Below.refl _ _) (Nat.le_refl _) (by simp) ?_;(case hd=>rfl);(case hg=>rfl);(case hr=>first|(go_simp;done)|(go_simp;rfl));(case hp=>exact(dm.none _ _));intro aQq w5 Mx hb nL fM;clear nL fM;(first|rw[←ac8.out]at Mx|(simp only[Int.reduceToNat]at Mx;rw[←ac8.out]at Mx));have ac9:=ah.mk (Kd.R_lower (Kd.R_new' Mx (Kd.R_lt (zr Ny))) (aJ (zb HB)));replace Ny:=ah.mk (Kd.R_elder' (zr Ny) (Kd.R_base Mx) hb);replace Dp:=kb Dp hb;replace HB:=ah.mk (ai (zb HB) hb);clear hb Mx;obtain⟨Ao7,co7,eo7⟩:=Kd.R_slice ac9.out;subst eo7;obtain⟨Ao8,co8,eo8⟩:=Kd.R_slice Ny.out;subst eo8;obtain⟨yM,yN,BO,a04,afm,afn,afo,afp,afq,afr,a8Z,auB,yO,yP,BP,a05,afs,aft,afu,afv,afw,afx,a90,auC⟩:=c12 Dp))
 refine bodyPost_ret (results_cell_row rfl _ _ am0 39 #[.int .i64 a0,.int .i64 1,.slice Ao8 afz.length co8,.string (⟨#[]⟩:ByteArray),.bool false,.bool false,.int .i64 0,.slice Ao7 alZ.length co7,.string (⟨#[]⟩:ByteArray),.bool false,.int .i64 8,.int .i64 8] (0,0) _ rfl (zp Dp) Tryz.underlying39 rfl (by kernel_rfl)) rfl ?_
 exact⟨_,_,ze,(Kd.R_mono (qj (Kd.R_types Ny.out Dp.out (by decide))) (fun _ hk=>hk.1.2)),(Kd.R_mono (qj (Kd.R_types ac9.out Dp.out (by decide))) (fun _ hk=>hk.1.2)),zb HB⟩
def nR.f(l0:List (bf)):Option ((List (bf))):=(some (([]:List (bf)):List (bf))).bind fun Hz=>(if Hz.length+l0.length<3518437208883 then(some (Hz++l0))else(none))
theorem nR.calls(A0:Option Addr)(c0:Nat)(l0:List (bf))(r:List (bf))(w:World)(hr0:Kd.C iH w A0 l0.length l0)(hc0:l0.length≤c0)(h:nR.f l0=some r):
 Calls Tryz.prog 50 #[.slice A0 l0.length c0] w fun e w'=>∃vM:Value,e= .returned (vM)∧Kd.R iH 89 w' w.heap.size (fun _=>True) vM r∧Below w.heap.size w w':=by
 have En:=ah.mk hr0
 have Z7:=ah.mk hc0
 clear hr0 hc0
 have HB:=ah.mk (Below.refl w.heap.size w)
 have H:((some (([]:List (bf)):List (bf))).bind fun Hz=>(if Hz.length+l0.length<3518437208883 then(some (Hz++l0))else(none)))=some r:=h
 clear h
 obtain⟨Hz,Nz⟩:∃y_:List (bf),y_=(([]:List (bf))):=⟨_,rfl⟩
 replace H:(if Hz.length+l0.length<3518437208883 then(some (Hz++l0))else(none))=some r:=by first|(rw[Nz];with_reducible exact H)|(have fH:=(Option.bind_some _ _).symm.trans H;rw[Nz];with_reducible exact fH)|(have fH:=(Option.bind_some _ _).symm.trans H;with_reducible exact fH)|with_reducible exact H|(rw[Nz];exact H)|exact H
 have acd:=ah.mk Nz
 clear Nz
 replace H:=sp H
 rcases H with⟨c2,H⟩|⟨c2,H⟩
 ·skip
  have afA:=ah.mk c2
  clear c2
  obtain⟨aCY,NA⟩:∃y_:List (bf),y_=(Hz++l0):=⟨_,rfl⟩
  replace H:(some aCY)=some r:=by first|(rw[NA];with_reducible exact H)|(have fH:=(Option.bind_some _ _).symm.trans H;rw[NA];with_reducible exact fH)|(have fH:=(Option.bind_some _ _).symm.trans H;with_reducible exact fH)|with_reducible exact H|(rw[NA];exact H)|exact H
  have am2:=ah.mk NA
  clear NA
  obtain rfl:=Option.some.inj H
  go_enter Tryz.func50,Tryz.ntmps50
  go_wp2_with (first|((with_reducible refine gd 3 rfl ?_);refine Kd.R_lit iH _ 89 ?hg (N:=3) ?hd (xs:=([]:List (bf))) (inner:=[]) (ok:=fun _=>True) (okp:=fun _=>True) ?hr ?hp (fun _ hk=>hk) trivial (Below.refl _ _) (Nat.le_refl _) (by simp) ?_;(case hd=>rfl);(case hg=>rfl);(case hr=>first|(go_simp;done)|(go_simp;rfl));(case hp=>exact(dm.none _ _));intro aCZ w3 Nk hb nL fM;clear nL fM;(first|rw[←acd.out]at Nk|(simp only[Int.reduceToNat]at Nk;rw[←acd.out]at Nk));have ace:=ah.mk (Kd.R_lower Nk (aJ (zb HB)));replace HB:=ah.mk (ai (zb HB) hb);clear hb Nk)|((with_reducible refine kY (b:=.append) (xs:=#[.tmp 3,.tmp 4]) rfl ?_);at_builtin;refine Kd.R_append_rows iH (w0:=w) w.heap.size rfl (.tmp 3) (.tmp 4) 23 89 (.agg #[(.string ⟨#[]⟩),(.string ⟨#[]⟩),(.bool false)]) 40 rfl Tryz.underlying23 yL rfl (by decide) (by omega) aCZ Hz l0 _ _ _ (fun _=>True) (fun _=>False) rfl rfl ?aO ?aR (fun _ _ h=>h) (fun _ h=>h.elim) ?aF ?aB ?aS ?aL ?_;(case aR=>exact zc (Kd.C_below En.out HB.out));(case aB=>exact(zb HB));(case aF=>exact(fun _ _=>trivial));(case aO=>exact(zr ace));(case aS=>exact(aJ (zb HB)));(case aL=>have:=afA.out;omega);intro aQx w5 ho hb hg hat;rw[←am2.out]at ho;replace HB:=ah.mk (hb);have am3:=ah.mk (ho);clear ace;clear ho hb hg hat))
  go_ret
  exact⟨_,ze,zq (am3.out),zb HB⟩
 ·skip
  exact absurd H (by simp)
def bR.f(a0:Int):Option (ByteArray):=some (strOfNums (([(a0)%256]:List Int)))
theorem bR.calls(a0:Int)(r:ByteArray)(w:World)(h:bR.f a0=some r):
 Calls Tryz.prog 59 #[.int .i64 a0] w fun e w'=>e= .returned (.string r)∧Below w.heap.size w w':=by
 have HB:=ah.mk (Below.refl w.heap.size w)
 have H:(some (strOfNums (([(a0)%256]:List Int))))=some r:=h
 clear h
 obtain⟨aD0,NC⟩:∃y_:List Int,y_=(([(a0)%256]:List Int)):=⟨_,rfl⟩
 replace H:(some (strOfNums aD0))=some r:=by first|(rw[NC];with_reducible exact H)|(have fH:=(Option.bind_some _ _).symm.trans H;rw[NC];with_reducible exact fH)|(have fH:=(Option.bind_some _ _).symm.trans H;with_reducible exact fH)|with_reducible exact H|(rw[NC];exact H)|exact H
 have acf:=ah.mk NC
 clear NC
 obtain rfl:=Option.some.inj H
 go_enter Tryz.func59,Tryz.ntmps59
 go_wp2_with (first|((with_reducible refine gd 5 rfl ?_);refine Kd.R_lit (Kd.int .u8) _ 5 ?hg (N:=5) ?hd (xs:=([(a0)%256]:List Int)) (inner:=[.int .u8 ((a0)%256)]) (ok:=fun _=>True) (okp:=fun _=>True) ?hr ?hp (fun _ hk=>hk) trivial (Below.refl _ _) (Nat.le_refl _) (by simp) ?_;(case hd=>rfl);(case hg=>rfl);(case hr=>first|(go_simp;done)|(go_simp;rfl));(case hp=>exact(dm.one (show Kd.M (Kd.int .u8) _ _ _ ((a0)%256) [.int .u8 ((a0)%256)]from rfl) (dm.none _ _)));intro aQy w2 ho3 hb nL fM;clear nL fM;(first|rw[←acf.out]at ho3|(simp only[Int.reduceToNat]at ho3;rw[←acf.out]at ho3));have am4:=ah.mk (Kd.R_lower ho3 (aJ (zb HB)));replace HB:=ah.mk (ai (zb HB) hb);clear hb ho3;have aQz:=lW (P:=Tryz.prog) Tryz.underlying22 Tryz.underlying5 Tryz.underlying9 (Kd.own_of_R am4.out)))
 go_ret
 exact⟨ze,zb HB⟩
def bO.j0:Nat→Int→Int→Bool→Int→ByteArray→Option (ByteArray)
 |0,_,_,_,_,_=>none
 |k+1,x3,a92,auD,a94,KQ=>(bR.f (KQ.size:Int)).bind fun AL=>((bR.f a92).bind fun AO=>(if AL.size+AO.size≤9223372036854775807 then((bR.f x3).bind fun DZ=>(if(AL++AO).size+DZ.size≤9223372036854775807 then((bR.f a94).bind fun KR=>(if((AL++AO)++DZ).size+KR.size≤9223372036854775807 then(if(((AL++AO)++DZ)++KR).size+KQ.size≤9223372036854775807 then(some ((((AL++AO)++DZ)++KR)++KQ))else(none))else(none)))else(none)))else(none)))
def bO.f(k:Nat)(aY:Int)(aA:Bool)(dP:Int)(cZ:ByteArray):Option (ByteArray):=if aA=true then(bO.j0 k 1 aY aA dP cZ)else(bO.j0 k 0 aY aA dP cZ)
theorem bO.mono_l:∀k,(∀y0 y1 y2 y3 y4,gM (bO.j0 k y0 y1 y2 y3 y4) (bO.j0 (k+1) y0 y1 y2 y3 y4))
 |0=>fun _ _ _ _ _ r h=>by simp[bO.j0]at h
 |k+1=>by
  have mW:=bO.mono_l k
  ·intro y0 y1 y2 y3 y4
   unfold bO.j0
   exact zm
theorem bO.mono:∀a0 a1 a2 a3 k,gM (bO.f k a0 a1 a2 a3) (bO.f (k+1) a0 a1 a2 a3):=by
 intro a0 a1 a2 a3 k
 have mW:=bO.mono_l k
 unfold bO.f
 exact zm
def bO.T4:Bool×List (List Nat×List Nat):=(true,[([],[]),([0],[0]),([1],[1]),([2],[2]),([],[]),([4],[4]),([5,3],[5]),([3,6],[3,6]),([],[]),([8,6],[8]),([7,9],[7,9]),([],[]),([11],[11]),([12,9],[12]),([10,13],[10,13]),([],[]),([15],[15]),([14,16],[14,16]),([17,13,0,1,2,3,4,5,6,7,8,9,10,11,12,13,14,15,16,17],[17])])
def bO.B4:List Nat:=[0,1,3,7,0,16,63,127,0,383,1023,0,2048,7039,16383,0,32768,131071,262143]
theorem bO.tab4:jG .any (opsOf Tryz.f93 4)=bO.T4:=by kernel_rfl
theorem bO.bits4:fQ bO.T4.2 bO.B4=true:=by kernel_rfl
theorem bO.calls(k:Nat)(aY:Int)(aA:Bool)(dP:Int)(cZ:ByteArray)(r:ByteArray)(w:World)(h:bO.f k aY aA dP cZ=some r):
 Calls Tryz.prog 93 #[.agg #[.int .i64 aY,.bool aA,.int .i64 dP,.string cZ]] w fun e w'=>e= .returned (.string r)∧Below w.heap.size w w':=by
 have Xp:=Tryz.underlying42
 have HB:=ah.mk (Below.refl w.heap.size w)
 have H:(if aA=true then(bO.j0 k 1 aY aA dP cZ)else(bO.j0 k 0 aY aA dP cZ))=some r:=h
 clear h
 have HC2:=ah.mk H
 clear H
 go_enter Tryz.func93,Tryz.ntmps93
 go_upto_if 5 with(first|((with_reducible refine gd 1 rfl ?_);refine bx (N:=1) (cs:=#[.int .i64 aY,.bool aA,.int .i64 dP,.string cZ]) (t:=42) ?_;intro am5 hg w3 hbox hb;have nM:=ah.mk (hbox);have am6:=gw HB hg;have aM5:=am6;replace HB:=ah.mk (ai (zb HB) hb);clear hb hbox hg;obtain⟨qK,qL,uL,vY,uM,qM,uN,vZ⟩:=c4 nM))
 (try simp only[Act.put,s1,s2,s3])
 go_cut [3] (fun v3 wc=>∃(kq:Nat)(dh:Int),v3= .int .i64 dh∧ah (bO.j0 kq dh aY aA dP cZ=some r)∧ah (kq≤k)∧ah (wc.heap[am5]?=some (.cells #[.int .i64 aY,.bool aA,.int .i64 dP,.string cZ] 42 (0,0)))∧ah (Below w.heap.size w wc))
 case first=>
  have H:=HC2.out
  clear HC2
  by_cases c5:aA=true
  ·subst c5
   rw[if_pos rfl]at H
   have H':=ah.mk H
   clear H
   go_wp2
   go_meet
   case rel=>exact⟨_,(1),zs,H',⟨by first|omega|exact Nat.le_refl _⟩,⟨by exact zk nM⟩,⟨zb HB⟩⟩
  ·replace c5:=Bool.eq_false_iff.mpr c5
   subst c5
   rw[if_neg (show ¬(false=true) by decide)]at H
   have H':=ah.mk H
   clear H
   go_wp2
   go_meet
   case rel=>exact⟨_,(0),zs,H',⟨by first|omega|exact Nat.le_refl _⟩,⟨by exact zk nM⟩,⟨zb HB⟩⟩
 case rest=>
  clear HC2
  try clear p2
  try clear c5
  try clear qK
  try clear qL
  try clear uL
  try clear vY
  try clear uM
  try clear qM
  try clear uN
  try clear vZ
  obtain⟨kq,dh,rfl,HA,HJ1,nM,HB⟩:=hcut
  cases kq with
  |zero=>exact absurd HA.out (by simp[bO.j0])
  |succ kj1=>
   have H:=HA.out
   clear HA
   simp only[bO.j0]at H
   obtain⟨AL,A6,H⟩:=ob H
   (try dsimp only at H)
   obtain⟨AO,A7,H⟩:=ob H
   (try dsimp only at H)
   replace H:=sp H
   rcases H with⟨c8,H⟩|⟨c8,H⟩
   ·skip
    have c8b0:=eq_true c8
    have c8b1:=decide_eq_true c8
    try have c8b2:(9223372036854775807<AL.size+AO.size)=False:=eq_false (Nat.not_lt.2 c8)
    obtain⟨DZ,A9,H⟩:=ob H
    (try dsimp only at H)
    by_cases c10:(AL++AO).size+DZ.size≤9223372036854775807
    ·rw[if_pos c10]at H
     have c10b0:=eq_true c10
     have c10b1:=decide_eq_true c10
     try have c10b2:(9223372036854775807<(AL++AO).size+DZ.size)=False:=eq_false (Nat.not_lt.2 c10)
     try(have c10b3:=c10b2;rw[ByteArray.size_append]at c10b3)
     obtain⟨KR,A11,H⟩:=ob H
     (try dsimp only at H)
     by_cases c12:((AL++AO)++DZ).size+KR.size≤9223372036854775807
     ·rw[if_pos c12]at H
      have c12b0:=eq_true c12
      have c12b1:=decide_eq_true c12
      try have c12b2:(9223372036854775807<((AL++AO)++DZ).size+KR.size)=False:=eq_false (Nat.not_lt.2 c12)
      try(have c12b3:=c12b2;simp only[ByteArray.size_append]at c12b3)
      by_cases c13:(((AL++AO)++DZ)++KR).size+cZ.size≤9223372036854775807
      ·rw[if_pos c13]at H
       have c13b0:=eq_true c13
       have c13b1:=decide_eq_true c13
       try have c13b2:(9223372036854775807<(((AL++AO)++DZ)++KR).size+cZ.size)=False:=eq_false (Nat.not_lt.2 c13)
       try(have c13b3:=c13b2;simp only[ByteArray.size_append]at c13b3)
       obtain rfl:=Option.some.inj H
       try go_wp2
       replace nM:=ah.mk (dw nM.out)
       replace HB:=ah.mk (dF HB.out)
       refine st 19 (b4 nM) (fun hHeld=>?_);refine bK bO.tab4 bO.bits4 (fun HT_ HW_=>?_)
       generalize wc.drew=DX at nM HB hHeld ⊢
       refine pu 0 (some 6) (bm 19 1) rfl rfl ?_
       refine pu 4 (some 10) (bm 19 17) rfl rfl ?_
       refine pu 8 (some 14) (bm 19 273) rfl rfl ?_
       refine pu 11 (some 17) (bm 19 2321) rfl rfl ?_
       refine pu 15 (some 21) (bm 19 35089) rfl rfl ?_
       refine tk 1 (some 7) (bm 19 35091) rfl rfl hHeld ?_
       refine pu 2 (some 8) (bm 19 35095) rfl rfl ?_
       refine tk 5 (some 11) (bm 19 35127) rfl rfl hHeld ?_
       refine tk 12 (some 18) (bm 19 39223) rfl rfl hHeld ?_
       refine tk 16 (some 22) (bm 19 104759) rfl rfl hHeld ?_
       refine iN (i:=3) (N:=some 9) (bm 19 104767) rfl rfl (eG HT_.out (by kernel_rfl)) (by decide) (fun K hK=>?_)
       refine gs Tryz.func59 #[.int .i64 (cZ.size:Int)] ?_
       with_reducible refine(bR.calls (cZ.size:Int) AL _ A6.out).mono ?_
       rintro e w15 ⟨rfl,hb⟩
       refine⟨_,rfl,?_⟩
       replace nM:=kb nM hb
       replace HB:=ah.mk (ai (zb HB) hb)
       (try clear hb)
       refine hK.out _ _ (b4 nM) (fun hHeld=>?_)
       clear hK K
       refine nm ?_
       refine iN (i:=6) (N:=some 12) (bm 19 104831) rfl rfl (eG HT_.out (by kernel_rfl)) (by decide) (fun K hK=>?_)
       refine gs Tryz.func59 #[.int .i64 aY] ?_
       with_reducible refine(bR.calls aY AO _ A7.out).mono ?_
       rintro e w16 ⟨rfl,hb⟩
       refine⟨_,rfl,?_⟩
       replace nM:=kb nM hb
       replace HB:=ah.mk (ai (zb HB) hb)
       (try clear hb)
       refine hK.out _ _ (b4 nM) (fun hHeld=>?_)
       clear hK K
       refine nm ?_
       refine pu 7 (some 13) (bm 19 104959) rfl rfl ?_
       refine iN (i:=9) (N:=some 15) (bm 19 105471) rfl rfl (eG HT_.out (by kernel_rfl)) (by decide) (fun K hK=>?_)
       refine gs Tryz.func59 #[.int .i64 dh] ?_
       with_reducible refine(bR.calls dh DZ _ A9.out).mono ?_
       rintro e w17 ⟨rfl,hb⟩
       refine⟨_,rfl,?_⟩
       replace nM:=kb nM hb
       replace HB:=ah.mk (ai (zb HB) hb)
       (try clear hb)
       refine hK.out _ _ (b4 nM) (fun hHeld=>?_)
       clear hK K
       refine nm ?_
       refine pu 10 (some 16) (bm 19 106495) rfl rfl ?_
       refine iN (i:=13) (N:=some 19) (bm 19 114687) rfl rfl (eG HT_.out (by kernel_rfl)) (by decide) (fun K hK=>?_)
       refine gs Tryz.func59 #[.int .i64 dP] ?_
       with_reducible refine(bR.calls dP KR _ A11.out).mono ?_
       rintro e UM ⟨rfl,hb⟩
       refine⟨_,rfl,?_⟩
       replace nM:=kb nM hb
       replace HB:=ah.mk (ai (zb HB) hb)
       (try clear hb)
       refine hK.out _ _ (b4 nM) (fun hHeld=>?_)
       clear hK K
       refine nm ?_
       refine pu 14 (some 20) (bm 19 131071) rfl rfl ?_
       refine pu 17 (some 23) (bm 19 262143) rfl rfl ?_
       refine pu 18 (some 2) (bm 19 524287) rfl rfl ?_
       refine lq (jC HT_.out (by kernel_rfl)) ?_
       try go_wp2
       go_ret
       exact⟨ze,zb HB⟩
      ·rw[if_neg c13]at H
       exact absurd H (by simp)
     ·rw[if_neg c12]at H
      exact absurd H (by simp)
    ·rw[if_neg c10]at H
     exact absurd H (by simp)
   ·skip
    exact absurd H (by simp)
def dM.l0:Nat→List (bf)→List (bf)→Int→Option ((List (bf))×Int)
 |0,_,_,_=>none
 |k+1,x3,a95,KS=>(dA.f k x3).bind fun a0T=>(if a0T>KS then(if 0≤(wrap64 ((x3.length:Int)-1))then(if(wrap64 ((x3.length:Int)-1))≤(x3.length:Int)then(dM.l0 k (x3.take ((wrap64 ((x3.length:Int)-1)):Int).toNat) a95 KS)else(none))else(none))else(some (x3,KS)))
def dM.f(k:Nat)(aH:List (bf))(aA:Int):Option ((List (bf))×Int):=(some (([]:List (bf)):List (bf))).bind fun HY=>(if HY.length+aH.length<3518437208883 then(dM.l0 k (HY++aH) aH aA)else(none))
theorem dM.mono_l:∀k,(∀y0 y1 y2,gM (dM.l0 k y0 y1 y2) (dM.l0 (k+1) y0 y1 y2))
 |0=>fun _ _ _ r h=>by simp[dM.l0]at h
 |k+1=>by
  have mW:=dM.mono_l k
  ·intro y0 y1 y2
   unfold dM.l0
   have m0:=@dA.mono
   exact zm
theorem dM.mono:∀a0 a1 k,gM (dM.f k a0 a1) (dM.f (k+1) a0 a1):=by
 intro a0 a1 k
 have mW:=dM.mono_l k
 unfold dM.f
 have m0:=@dA.mono
 exact zm
theorem dM.calls(k:Nat)(j4:Option Addr)(j5:Nat)(aH:List (bf))(aA:Int)(r1:List (bf))(r2:Int)(w:World)(kT:Kd.C iH w j4 aH.length aH)(kU:aH.length≤j5)(h:dM.f k aH aA=some (r1,r2)):
 Calls Tryz.prog 84 #[.agg #[.slice j4 aH.length j5,.int .i64 aA]] w fun e w'=>∃vM:Value,e= .returned (.agg #[vM,.int .i64 r2])∧Kd.R iH 89 w' w.heap.size (fun _=>True) vM r1∧Below w.heap.size w w':=by
 have Ab:=Tryz.underlying25
 have lM:=ah.mk kT
 have pO:=ah.mk kU
 clear kT kU
 have HB:=ah.mk (Below.refl w.heap.size w)
 have H:((some (([]:List (bf)):List (bf))).bind fun HY=>(if HY.length+aH.length<3518437208883 then(dM.l0 k (HY++aH) aH aA)else(none)))=some (r1,r2):=h
 clear h
 obtain⟨HY,ND⟩:∃y_:List (bf),y_=(([]:List (bf))):=⟨_,rfl⟩
 replace H:(if HY.length+aH.length<3518437208883 then(dM.l0 k (HY++aH) aH aA)else(none))=some (r1,r2):=by first|(rw[ND];with_reducible exact H)|(have fH:=(Option.bind_some _ _).symm.trans H;rw[ND];with_reducible exact fH)|(have fH:=(Option.bind_some _ _).symm.trans H;with_reducible exact fH)|with_reducible exact H|(rw[ND];exact H)|exact H
 have acg:=ah.mk ND
 clear ND
 replace H:=sp H
 rcases H with⟨c2,H⟩|⟨c2,H⟩
 ·skip
  have afA:=ah.mk c2
  clear c2
  obtain⟨am7,NE⟩:∃y_:List (bf),y_=(HY++aH):=⟨_,rfl⟩
  replace H:(dM.l0 k am7 aH aA)=some (r1,r2):=by first|(rw[NE];with_reducible exact H)|(have fH:=(Option.bind_some _ _).symm.trans H;rw[NE];with_reducible exact fH)|(have fH:=(Option.bind_some _ _).symm.trans H;with_reducible exact fH)|with_reducible exact H|(rw[NE];exact H)|exact H
  have am8:=ah.mk NE
  clear NE
  have H':=ah.mk H
  clear H
  go_enter Tryz.func84,Tryz.ntmps84
  go_wp2_with (first|((with_reducible refine gd 1 rfl ?_);refine bx (N:=1) (cs:=#[.slice j4 aH.length j5,.int .i64 aA]) (t:=25) ?_;intro am9 hg w3 hbox hb;have kI:=ah.mk (hbox);have ama:=gw HB hg;have aM6:=ama;replace HB:=ah.mk (ai (zb HB) hb);clear hb hbox hg)|((with_reducible refine gd 2 rfl ?_);refine bx (N:=2) (cs:=#[.slice none 0 0,.int .i64 0]) (t:=25) ?_;intro ach hg w4 hbox hb;have ni:=ah.mk (hbox);have amb:=gw HB hg;have aM7:=amb;replace HB:=ah.mk (ai (zb HB) hb);obtain⟨Ir,Iu⟩:=nb kI hg;replace kI:=kb kI hb;clear hb hbox hg)|((with_reducible refine gd 4 rfl ?_);refine Kd.R_lit iH _ 89 ?hg (N:=4) ?hd (xs:=([]:List (bf))) (inner:=[]) (ok:=fun _=>True) (okp:=fun _=>True) ?hr ?hp (fun _ hk=>hk) trivial (Below.refl _ _) (Nat.le_refl _) (by simp) ?_;(case hd=>rfl);(case hg=>rfl);(case hr=>first|(go_simp;done)|(go_simp;rfl));(case hp=>exact(dm.none _ _));intro aD1 w5 Mx hb nL fM;clear nL fM;(first|rw[←acg.out]at Mx|(simp only[Int.reduceToNat]at Mx;rw[←acg.out]at Mx));have Vi:=ah.mk (Kd.R_lower Mx (aJ (zb HB)));replace kI:=kb kI hb;replace ni:=kb ni hb;replace HB:=ah.mk (ai (zb HB) hb);clear hb Mx;have aD2:=Ir.out;have aD3:=Iu.out;obtain⟨BK,BL,BM,BN⟩:=c2 kI)|((with_reducible refine kY (b:=.append) (xs:=#[.tmp 4,.tmp 6]) rfl ?_);at_builtin;refine Kd.R_append_rows iH (w0:=w) w.heap.size rfl (.tmp 4) (.tmp 6) 23 89 (.agg #[(.string ⟨#[]⟩),(.string ⟨#[]⟩),(.bool false)]) 40 rfl Tryz.underlying23 yL rfl (by decide) (by omega) aD1 HY aH _ _ _ (fun _=>True) (fun _=>False) rfl rfl ?aO ?aR (fun _ _ h=>h) (fun _ h=>h.elim) ?aF ?aB ?aS ?aL ?_;(case aR=>exact zc (Kd.C_below lM.out HB.out));(case aB=>exact(zb HB));(case aF=>exact(fun _ _=>trivial));(case aO=>exact(zr Vi));(case aS=>exact(aJ (zb HB)));(case aL=>have:=afA.out;omega);intro aQA w9 ho hb hg hat;rw[←am8.out]at ho;replace kI:=ah.mk (jL (zk kI) hg (Kd.R_ne Vi.out kI.out (by decide)));replace ni:=ah.mk (jL (zk ni) hg (Kd.R_ne Vi.out ni.out (by decide)));replace HB:=ah.mk (hb);have amc:=ah.mk (ho);clear Vi;clear ho hb hg hat))
  go_loopg [3] k (fun kq v3 w'=>∃(dh:List (bf)),ah (dM.l0 kq dh aH aA=some (r1,r2))∧ah (kq≤k)∧ah (Kd.R iH 89 w' w.heap.size (fun _=>True) v3 dh)∧ah (w'.heap[am9]?=some (.cells #[(.slice j4 aH.length j5),.int .i64 aA] 25 (0,0)))∧ah (w'.heap[ach]?=some (.cells #[(.slice none 0 0),.int .i64 0] 25 (0,0)))∧ah (Below w.heap.size w w'))
  case atStart=>exact⟨(am7),H',⟨Nat.le_refl _⟩,⟨by exact zr amc⟩,⟨by exact zk kI⟩,⟨by exact zk ni⟩,⟨zb HB⟩⟩
  case round=>
   clear H'
   try clear c2
   try clear p2
   try clear c7
   try clear c8
   try clear BK
   try clear BL
   try clear BM
   try clear BN
   obtain⟨dh,HA,jd,HO_3,kI,ni,HB⟩:=hrel
   cases gk with
   |zero=>exact absurd HA.out (by simp[dM.l0])
   |succ k1=>
    have H:=HA.out
    clear HA
    simp only[dM.l0]at H
    obtain⟨a0T,Qx,H⟩:=ob H
    (try dsimp only at H)
    by_cases c11:a0T>aA
    ·rw[if_pos c11]at H
     have c11b0:=decide_eq_true c11
     clear c11
     obtain⟨G7,Vj⟩:∃j_:Int,(wrap64 ((dh.length:Int)-1))=j_:=⟨_,rfl⟩
     replace H:(if 0≤(G7)then(if(G7)≤(dh.length:Int)then(dM.l0 k1 (dh.take ((G7):Int).toNat) aH aA)else(none))else(none))=some (r1,r2):=by first|(rw[Vj]at H;exact H)|(simp only[Vj]at H ⊢;exact H)
     (try rw[Vj]at Qx)
     have hji12w:(IntKind.i64.wrap ((dh.length:Int)-1))=G7:=(gI _).trans Vj
     by_cases c13:0≤(G7)
     ·rw[if_pos c13]at H
      have c13b0:=eq_true c13
      have c13b1:=decide_eq_true c13
      clear c13
      by_cases c14:(G7)≤(dh.length:Int)
      ·rw[if_pos c14]at H
       have c14b0:=eq_true c14
       have c14b1:=decide_eq_true c14
       clear c14
       obtain⟨afB,NF⟩:∃y_:List (bf),y_=(dh.take ((G7):Int).toNat):=⟨_,rfl⟩
       replace H:(dM.l0 k1 afB aH aA)=some (r1,r2):=by first|(rw[NF];with_reducible exact H)|(have fH:=(Option.bind_some _ _).symm.trans H;rw[NF];with_reducible exact fH)|(have fH:=(Option.bind_some _ _).symm.trans H;with_reducible exact fH)|with_reducible exact H|(rw[NF];exact H)|exact H
       have aci:=ah.mk NF
       clear NF
       have H':=ah.mk H
       clear H
       try go_wp2
       replace HO_3:=ah.mk (Kd.R_drew HO_3.out)
       replace kI:=ah.mk (dw kI.out)
       replace ni:=ah.mk (dw ni.out)
       replace HB:=ah.mk (dF HB.out)
       obtain⟨a96,a97,a0U⟩:=Kd.R_slice HO_3.out
       (first|subst a0U|(injection a0U with Dq NG Dr;have NH:=Dq.symm;have NI:=Dr.symm;clear Dq NG Dr;subst NH;subst NI))
       refine st 5 (b2 kI) (fun hHeld=>?_)
       generalize wr.drew=w15 at HO_3 kI ni HB hHeld ⊢
       refine pu 0 (some 8) (bm 5 1) rfl rfl ?_
       refine pu 2 (some 10) (bm 5 5) rfl rfl ?_
       refine tk 3 (some 11) (bm 5 13) rfl rfl hHeld ?_
       refine iN (i:=1) (N:=some 9) (bm 5 15) rfl rfl (by kernel_rfl) (by decide) (fun K hK=>?_)
       refine gs Tryz.func57 #[.slice a96 dh.length a97] ?_
       with_reducible refine(dA.calls k1 _ _ dh a0T _ ?aN ?aQ Qx.out).mono ?_
       (case aN=>exact zc (Kd.R_reads' HO_3.out).2.2)
       (case aQ=>exact(Kd.R_reads' HO_3.out).2.1)
       rintro e w17 ⟨rfl,hb⟩
       refine⟨_,rfl,?_⟩
       replace HO_3:=ah.mk (Kd.R_below (zr HO_3) hb)
       replace kI:=kb kI hb
       replace ni:=kb ni hb
       replace HB:=ah.mk (ai (zb HB) hb)
       (try clear hb)
       refine hK.out _ _ (b2 kI) (fun hHeld=>?_)
       clear hK K
       refine nm ?_
       refine pu 4 (some 12) (bm 5 31) rfl rfl ?_
       refine lq (by kernel_rfl) ?_
       have q18:((G7):Int)≤((dh.length:Int):Int):=of_decide_eq_true za
       obtain⟨aQB,acj,_,amd,_⟩:=info_parts yL
       have afC:=BA (P:=Tryz.prog) 23 89 .i64 Tryz.underlying23 acj a96 dh.length a97 (G7) (of_decide_eq_true za) q18 (Kd.R_reads' HO_3.out).2.1
       have a98:=Kd.R_take (m:=((G7):Int).toNat) HO_3.out (by omega)
       have ame:afB.length=((G7):Int).toNat:=(by rw[aci.out,List.length_take];omega)
       rw[←aci.out]at a98
       rw[←ame]at a98 afC
       clear ame acj amd HO_3
       have amf:=ah.mk a98
       clear a98
       replace q18:=eq_true q18
       try go_wp2
       go_roundg k1
       case measure=>have:=jd.out;omega
       case rel=>exact⟨(afB),H',⟨by have:=jd.out;omega⟩,⟨by exact zr amf⟩,⟨by exact zk kI⟩,⟨by exact zk ni⟩,⟨zb HB⟩⟩
      ·rw[if_neg c14]at H
       exact absurd H (by simp)
     ·rw[if_neg c13]at H
      exact absurd H (by simp)
    ·rw[if_neg c11]at H
     have c11b0:=decide_eq_false c11
     clear c11
     simp only[Option.some.injEq,Prod.mk.injEq]at H
     obtain⟨rfl,rfl⟩:=H
     try go_wp2
     replace HO_3:=ah.mk (Kd.R_drew HO_3.out)
     replace kI:=ah.mk (dw kI.out)
     replace ni:=ah.mk (dw ni.out)
     replace HB:=ah.mk (dF HB.out)
     obtain⟨amg,amh,ami⟩:=Kd.R_slice HO_3.out
     (first|subst ami|(injection ami with Dq NG Dr;have NH:=Dq.symm;have NI:=Dr.symm;clear Dq NG Dr;subst NH;subst NI))
     refine st 5 (b2 kI) (fun hHeld=>?_)
     generalize wr.drew=w19 at HO_3 kI ni HB hHeld ⊢
     refine pu 0 (some 8) (bm 5 1) rfl rfl ?_
     refine pu 2 (some 10) (bm 5 5) rfl rfl ?_
     refine tk 3 (some 11) (bm 5 13) rfl rfl hHeld ?_
     refine iN (i:=1) (N:=some 9) (bm 5 15) rfl rfl (by kernel_rfl) (by decide) (fun K hK=>?_)
     refine gs Tryz.func57 #[.slice amg dh.length amh] ?_
     with_reducible refine(dA.calls k1 _ _ dh a0T _ ?aN ?aQ Qx.out).mono ?_
     (case aN=>exact zc (Kd.R_reads' HO_3.out).2.2)
     (case aQ=>exact(Kd.R_reads' HO_3.out).2.1)
     rintro e w21 ⟨rfl,hb⟩
     refine⟨_,rfl,?_⟩
     replace HO_3:=ah.mk (Kd.R_below (zr HO_3) hb)
     replace kI:=kb kI hb
     replace ni:=kb ni hb
     replace HB:=ah.mk (ai (zb HB) hb)
     (try clear hb)
     refine hK.out _ _ (b2 kI) (fun hHeld=>?_)
     clear hK K
     refine nm ?_
     refine pu 4 (some 12) (bm 5 31) rfl rfl ?_
     refine lq (by kernel_rfl) ?_
     have ack:=Ir.out
     have acn:=Iu.out
     obtain⟨KC,KD,KE,KF⟩:=c2 kI
     obtain⟨a99,a9a,a9b,a9c⟩:=c2 ni
     try go_wp2
     refine bodyPost_ret (results_cell_row rfl _ _ ach 25 #[.slice amg dh.length amh,.int .i64 aA] (0,0) _ rfl (zp ni) Tryz.underlying25 rfl (by kernel_rfl)) rfl ?_
     exact⟨_,ze,(Kd.R_mono (qj (Kd.R_types HO_3.out ni.out (by decide))) (fun _ hk=>trivial)),zb HB⟩
 ·skip
  exact absurd H (by simp)
def dI.l0:Nat→List (bf)→ByteArray→Int→Option (ByteArray×Bool)
 |0,_,_,_=>none
 |k+1,x0,x1,x6=>if x6<(x0.length:Int)then(if 0≤x6 then(if((aU x0 x6).f0).toList=x1.toList then(some ((aU x0 x6).f1,true))else(dI.l0 k x0 x1 (wrap64 (x6+1))))else(none))else(some ((⟨#[]⟩:ByteArray),false))
def dI.f(k:Nat)(l0:List (bf))(a1:ByteArray):Option (ByteArray×Bool):=(bg.f k l0).bind fun a0V=>(if a0V=true then(dI.l0 k l0 a1 0)else(some ((⟨#[]⟩:ByteArray),false)))
theorem dI.mono_l:∀k,(∀y0 y1 y2,gM (dI.l0 k y0 y1 y2) (dI.l0 (k+1) y0 y1 y2))
 |0=>fun _ _ _ r h=>by simp[dI.l0]at h
 |k+1=>by
  have mW:=dI.mono_l k
  ·intro y0 y1 y2
   unfold dI.l0
   have m0:=@bg.mono
   exact zm
theorem dI.mono:∀a0 a1 k,gM (dI.f k a0 a1) (dI.f (k+1) a0 a1):=by
 intro a0 a1 k
 have mW:=dI.mono_l k
 unfold dI.f
 have m0:=@bg.mono
 exact zm
theorem dI.calls(k:Nat)(A0:Option Addr)(c0:Nat)(l0:List (bf))(a1:ByteArray)(r1:ByteArray)(r2:Bool)(w:World)(hr0:Kd.C iH w A0 l0.length l0)(hc0:l0.length≤c0)(h:dI.f k l0 a1=some (r1,r2)):
 Calls Tryz.prog 119 #[.slice A0 l0.length c0,.string a1] w fun e w'=>e= .returned (.tuple #[.string r1,.bool r2])∧Below w.heap.size w w':=by
 have En:=ah.mk hr0
 have Z7:=ah.mk hc0
 clear hr0 hc0
 have HB:=ah.mk (Below.refl w.heap.size w)
 have H:((bg.f k l0).bind fun a0V=>(if a0V=true then(dI.l0 k l0 a1 0)else(some ((⟨#[]⟩:ByteArray),false))))=some (r1,r2):=h
 clear h
 obtain⟨a0V,A3,H⟩:=ob H
 (try dsimp only at H)
 by_cases c4:a0V=true
 ·subst c4
  rw[if_pos rfl]at H
  have H':=ah.mk H
  clear H
  go_enter Tryz.func119,Tryz.ntmps119
  go_wp2_with (first|((with_reducible refine gq 54 rfl ?_);refine gl (some 8) Tryz.func54 #[.slice A0 l0.length c0] ?_;(with_reducible refine(bg.calls k _ _ l0 true _ ?aN ?aQ A3.out).mono ?_);(case aN=>exact zc En.out);(case aQ=>exact Z7.out);rintro e w5 ⟨rfl,hb⟩;refine⟨_,rfl,?_⟩;replace HB:=ah.mk (ai (zb HB) hb);(try clear hb)))
  go_loopg [6] k (fun kq v6 w'=>∃(iW:Int),v6= .int .i64 iW∧ah (dI.l0 kq l0 a1 iW=some (r1,r2))∧ah (kq≤k)∧ah (Below w.heap.size w w'))
  case atStart=>exact⟨(0),zs,H',⟨Nat.le_refl _⟩,⟨zb HB⟩⟩
  case round=>
   clear H'
   try clear c1
   try clear p2
   try clear c4
   try clear c5
   obtain⟨iW,rfl,HA,jd,HB⟩:=hrel
   cases gk with
   |zero=>exact absurd HA.out (by simp[dI.l0])
   |succ k1=>
    have H:=HA.out
    clear HA
    simp only[dI.l0]at H
    replace H:=sp H
    rcases H with⟨c6,H⟩|⟨c6,H⟩
    ·skip
     have c6b0:=decide_eq_true c6
     clear c6
     by_cases c7:0≤iW
     ·rw[if_pos c7]at H
      have c7b0:=decide_eq_true c7
      clear c7
      by_cases c8:((aU l0 iW).f0).toList=a1.toList
      ·rw[if_pos c8]at H
       have c8b0:(((aU l0 iW).f0).toList==a1.toList)=true:=beq_iff_eq.mpr c8
       have c8b1:(((aU l0 iW).f0).toList != a1.toList)=false:=bne_eq_false_iff_eq.mpr c8
       clear c8
       simp only[Option.some.injEq,Prod.mk.injEq]at H
       obtain⟨rfl,rfl⟩:=H
       have Rf:0≤(iW:Int):=of_decide_eq_true za
       have Rh:iW<(l0.length:Int):=of_decide_eq_true za
       obtain⟨aco,afD,AP,AQ,AR⟩:=eT En.out iW Rf Rh
       cases afD
       replace AP:=pX AP HB
       replace AQ:=pX AQ HB
       replace AR:=pX AR HB
       replace Rf:=eq_true Rf
       replace Rh:=eq_true Rh
       have afE:0≤(iW:Int):=of_decide_eq_true za
       have afF:iW<(l0.length:Int):=of_decide_eq_true za
       obtain⟨amj,aD4,Vk,Vl,Vm⟩:=eT En.out iW afE afF
       obtain rfl:aco=amj:=(by injection aD4)
       replace Vk:=pX Vk HB
       replace Vl:=pX Vl HB
       replace Vm:=pX Vm HB
       replace afE:=eq_true afE
       replace afF:=eq_true afF
       go_wp2
       go_ret2
       exact⟨ze,zb HB⟩
      ·rw[if_neg c8]at H
       have c8b0:(((aU l0 iW).f0).toList==a1.toList)=false:=beq_eq_false_iff_ne.mpr c8
       have c8b1:(((aU l0 iW).f0).toList != a1.toList)=true:=bne_iff_ne.mpr c8
       have H':=ah.mk H
       clear H
       have Rf:0≤(iW:Int):=of_decide_eq_true za
       have Rh:iW<(l0.length:Int):=of_decide_eq_true za
       obtain⟨aco,afD,AP,AQ,AR⟩:=eT En.out iW Rf Rh
       cases afD
       replace AP:=pX AP HB
       replace AQ:=pX AQ HB
       replace AR:=pX AR HB
       replace Rf:=eq_true Rf
       replace Rh:=eq_true Rh
       go_wp2
       go_roundg k1
       case measure=>have:=jd.out;omega
       case rel=>exact⟨(wrap64 (iW+1)),zs,H',⟨by have:=jd.out;omega⟩,⟨zb HB⟩⟩
     ·rw[if_neg c7]at H
      exact absurd H (by simp)
    ·skip
     have c6b0:=decide_eq_false c6
     clear c6
     simp only[Option.some.injEq,Prod.mk.injEq]at H
     obtain⟨rfl,rfl⟩:=H
     go_wp2
     go_ret2
     exact⟨ze,zb HB⟩
 ·replace c4:=Bool.eq_false_iff.mpr c4
  subst c4
  rw[if_neg (show ¬(false=true) by decide)]at H
  simp only[Option.some.injEq,Prod.mk.injEq]at H
  obtain⟨rfl,rfl⟩:=H
  go_enter Tryz.func119,Tryz.ntmps119
  go_wp2_with (first|((with_reducible refine gq 54 rfl ?_);refine gl (some 8) Tryz.func54 #[.slice A0 l0.length c0] ?_;(with_reducible refine(bg.calls k _ _ l0 false _ ?aN ?aQ A3.out).mono ?_);(case aN=>exact zc En.out);(case aQ=>exact Z7.out);rintro e w9 ⟨rfl,hb⟩;refine⟨_,rfl,?_⟩;replace HB:=ah.mk (ai (zb HB) hb);(try clear hb)))
  go_ret2
  exact⟨ze,zb HB⟩
def dQ.l0:Nat→ByteArray→ByteArray→Int→Option (ByteArray)
 |0,_,_,_=>none
 |k+1,x0,x3,x4=>if x4<(x0.size:Int)then(if 0≤x4 then(if(bt x0 x4)≥97 then(if(bt x0 x4)<122 then((some (([((bt x0 x4)+1)%256]:List Int):List Int)).bind fun NJ=>(if x3.size+(strOfNums NJ).size≤9223372036854775807 then(dQ.l0 k x0 (x3++(strOfNums NJ)) (wrap64 (x4+1)))else(none)))else((some (([bt x0 x4]:List Int):List Int)).bind fun NK=>(if x3.size+(strOfNums NK).size≤9223372036854775807 then(dQ.l0 k x0 (x3++(strOfNums NK)) (wrap64 (x4+1)))else(none))))else((some (([bt x0 x4]:List Int):List Int)).bind fun NM=>(if x3.size+(strOfNums NM).size≤9223372036854775807 then(dQ.l0 k x0 (x3++(strOfNums NM)) (wrap64 (x4+1)))else(none))))else(none))else(some x3)
def dQ.f(k:Nat)(a0:ByteArray):Option (ByteArray):=dQ.l0 k a0 (⟨#[]⟩:ByteArray) 0
theorem dQ.mono_l:∀k,(∀y0 y1 y2,gM (dQ.l0 k y0 y1 y2) (dQ.l0 (k+1) y0 y1 y2))
 |0=>fun _ _ _ r h=>by simp[dQ.l0]at h
 |k+1=>by
  have mW:=dQ.mono_l k
  ·intro y0 y1 y2
   unfold dQ.l0
   exact zm
theorem dQ.mono:∀a0 k,gM (dQ.f k a0) (dQ.f (k+1) a0):=by
 intro a0 k
 have mW:=dQ.mono_l k
 unfold dQ.f
 exact zm
theorem dQ.calls(k:Nat)(a0:ByteArray)(r:ByteArray)(w:World)(h:dQ.f k a0=some r):
 Calls Tryz.prog 122 #[.string a0] w fun e w'=>e= .returned (.string r)∧Below w.heap.size w w':=by
 have HB:=ah.mk (Below.refl w.heap.size w)
 have H:(dQ.l0 k a0 (⟨#[]⟩:ByteArray) 0)=some r:=h
 clear h
 have H':=ah.mk H
 clear H
 go_enter Tryz.func122,Tryz.ntmps122
 go_wp2
 go_loopg [3,4] k (fun kq v3 v4 w'=>∃(dh:ByteArray)(eB:Int),v3= .string dh∧v4= .int .i64 eB∧ah (dQ.l0 kq a0 dh eB=some r)∧ah (kq≤k)∧ah (Below w.heap.size w w'))
 case atStart=>exact⟨((⟨#[]⟩:ByteArray)),(0),zs,zs,H',⟨Nat.le_refl _⟩,⟨zb HB⟩⟩
 case round=>
  clear H'
  try clear c1
  obtain⟨dh,eB,rfl,rfl,HA,jd,HB⟩:=hrel
  cases gk with
  |zero=>exact absurd HA.out (by simp[dQ.l0])
  |succ k1=>
   have H:=HA.out
   clear HA
   simp only[dQ.l0]at H
   replace H:=sp H
   rcases H with⟨c2,H⟩|⟨c2,H⟩
   ·skip
    have c2b0:=decide_eq_true c2
    clear c2
    by_cases c3:0≤eB
    ·rw[if_pos c3]at H
     have c3b0:=decide_eq_true c3
     clear c3
     by_cases c5:(bt a0 eB)≥97
     ·rw[if_pos c5]at H
      have c5b0:=decide_eq_true c5
      clear c5
      by_cases c6:(bt a0 eB)<122
      ·rw[if_pos c6]at H
       have c6b0:=decide_eq_true c6
       clear c6
       obtain⟨NJ,NN⟩:∃y_:List Int,y_=(([((bt a0 eB)+1)%256]:List Int)):=⟨_,rfl⟩
       replace H:(if dh.size+(strOfNums NJ).size≤9223372036854775807 then(dQ.l0 k1 a0 (dh++(strOfNums NJ)) (wrap64 (eB+1)))else(none))=some r:=by first|(rw[NN];with_reducible exact H)|(have fH:=(Option.bind_some _ _).symm.trans H;rw[NN];with_reducible exact fH)|(have fH:=(Option.bind_some _ _).symm.trans H;with_reducible exact fH)|with_reducible exact H|(rw[NN];exact H)|exact H
       have acp:=ah.mk NN
       clear NN
       by_cases c7:dh.size+(strOfNums NJ).size≤9223372036854775807
       ·rw[if_pos c7]at H
        have c7b0:=eq_true c7
        have c7b1:=decide_eq_true c7
        try have c7b2:(9223372036854775807<dh.size+(strOfNums NJ).size)=False:=eq_false (Nat.not_lt.2 c7)
        have H':=ah.mk H
        clear H
        have p4:0≤(eB:Int):=of_decide_eq_true za
        have q4:eB<(a0.size:Int):=of_decide_eq_true za
        have hx4:=fF a0 eB
        replace p4:=eq_true p4
        replace q4:=eq_true q4
        go_wp2_with (first|((with_reducible refine gd 25 rfl ?_);refine Kd.R_lit (Kd.int .u8) _ 5 ?hg (N:=25) ?hd (xs:=([((bt a0 eB)+1)%256]:List Int)) (inner:=[.int .u8 (((bt a0 eB)+1)%256)]) (ok:=fun _=>True) (okp:=fun _=>True) ?hr ?hp (fun _ hk=>hk) trivial (Below.refl _ _) (Nat.le_refl _) (by simp) ?_;(case hd=>rfl);(case hg=>rfl);(case hr=>first|(go_simp;done)|(go_simp;rfl));(case hp=>exact(dm.one (show Kd.M (Kd.int .u8) _ _ _ (((bt a0 eB)+1)%256) [.int .u8 (((bt a0 eB)+1)%256)]from rfl) (dm.none _ _)));intro aQC w8 Nt hb nL fM;clear nL fM;(first|rw[←acp.out]at Nt|(simp only[Int.reduceToNat]at Nt;rw[←acp.out]at Nt));have amk:=ah.mk (Kd.R_lower Nt (aJ (zb HB)));replace HB:=ah.mk (ai (zb HB) hb);clear hb Nt;have alV:=lW (P:=Tryz.prog) Tryz.underlying22 Tryz.underlying5 Tryz.underlying9 (Kd.own_of_R amk.out)))
        go_roundg k1
        case measure=>have:=jd.out;omega
        case rel=>exact⟨(dh++(strOfNums NJ)),(wrap64 (eB+1)),zs,zs,H',⟨by have:=jd.out;omega⟩,⟨zb HB⟩⟩
       ·rw[if_neg c7]at H
        exact absurd H (by simp)
      ·rw[if_neg c6]at H
       have c6b0:=decide_eq_false c6
       clear c6
       obtain⟨NK,NP⟩:∃y_:List Int,y_=(([bt a0 eB]:List Int)):=⟨_,rfl⟩
       replace H:(if dh.size+(strOfNums NK).size≤9223372036854775807 then(dQ.l0 k1 a0 (dh++(strOfNums NK)) (wrap64 (eB+1)))else(none))=some r:=by first|(rw[NP];with_reducible exact H)|(have fH:=(Option.bind_some _ _).symm.trans H;rw[NP];with_reducible exact fH)|(have fH:=(Option.bind_some _ _).symm.trans H;with_reducible exact fH)|with_reducible exact H|(rw[NP];exact H)|exact H
       have acr:=ah.mk NP
       clear NP
       by_cases c11:dh.size+(strOfNums NK).size≤9223372036854775807
       ·rw[if_pos c11]at H
        have c11b0:=eq_true c11
        have c11b1:=decide_eq_true c11
        try have c11b2:(9223372036854775807<dh.size+(strOfNums NK).size)=False:=eq_false (Nat.not_lt.2 c11)
        have H':=ah.mk H
        clear H
        have p4:0≤(eB:Int):=of_decide_eq_true za
        have q4:eB<(a0.size:Int):=of_decide_eq_true za
        have hx4:=fF a0 eB
        replace p4:=eq_true p4
        replace q4:=eq_true q4
        go_wp2_with (first|((with_reducible refine gd 25 rfl ?_);refine Kd.R_lit (Kd.int .u8) _ 5 ?hg (N:=25) ?hd (xs:=([bt a0 eB]:List Int)) (inner:=[.int .u8 (bt a0 eB)]) (ok:=fun _=>True) (okp:=fun _=>True) ?hr ?hp (fun _ hk=>hk) trivial (Below.refl _ _) (Nat.le_refl _) (by simp) ?_;(case hd=>rfl);(case hg=>rfl);(case hr=>first|(go_simp;done)|(go_simp;rfl));(case hp=>exact(dm.one (show Kd.M (Kd.int .u8) _ _ _ (bt a0 eB) [.int .u8 (bt a0 eB)]from rfl) (dm.none _ _)));intro aQD Xu uQ hb nL fM;clear nL fM;(first|rw[←acr.out]at uQ|(simp only[Int.reduceToNat]at uQ;rw[←acr.out]at uQ));have aml:=ah.mk (Kd.R_lower uQ (aJ (zb HB)));replace HB:=ah.mk (ai (zb HB) hb);clear hb uQ;have aM8:=lW (P:=Tryz.prog) Tryz.underlying22 Tryz.underlying5 Tryz.underlying9 (Kd.own_of_R aml.out)))
        go_roundg k1
        case measure=>have:=jd.out;omega
        case rel=>exact⟨(dh++(strOfNums NK)),(wrap64 (eB+1)),zs,zs,H',⟨by have:=jd.out;omega⟩,⟨zb HB⟩⟩
       ·rw[if_neg c11]at H
        exact absurd H (by simp)
     ·rw[if_neg c5]at H
      have c5b0:=decide_eq_false c5
      clear c5
      obtain⟨NM,NQ⟩:∃y_:List Int,y_=(([bt a0 eB]:List Int)):=⟨_,rfl⟩
      replace H:(if dh.size+(strOfNums NM).size≤9223372036854775807 then(dQ.l0 k1 a0 (dh++(strOfNums NM)) (wrap64 (eB+1)))else(none))=some r:=by first|(rw[NQ];with_reducible exact H)|(have fH:=(Option.bind_some _ _).symm.trans H;rw[NQ];with_reducible exact fH)|(have fH:=(Option.bind_some _ _).symm.trans H;with_reducible exact fH)|with_reducible exact H|(rw[NQ];exact H)|exact H
      have acs:=ah.mk NQ
      clear NQ
      by_cases c15:dh.size+(strOfNums NM).size≤9223372036854775807
      ·rw[if_pos c15]at H
       have c15b0:=eq_true c15
       have c15b1:=decide_eq_true c15
       try have c15b2:(9223372036854775807<dh.size+(strOfNums NM).size)=False:=eq_false (Nat.not_lt.2 c15)
       have H':=ah.mk H
       clear H
       have p4:0≤(eB:Int):=of_decide_eq_true za
       have q4:eB<(a0.size:Int):=of_decide_eq_true za
       have hx4:=fF a0 eB
       replace p4:=eq_true p4
       replace q4:=eq_true q4
       go_wp2_with (first|((with_reducible refine gd 25 rfl ?_);refine Kd.R_lit (Kd.int .u8) _ 5 ?hg (N:=25) ?hd (xs:=([bt a0 eB]:List Int)) (inner:=[.int .u8 (bt a0 eB)]) (ok:=fun _=>True) (okp:=fun _=>True) ?hr ?hp (fun _ hk=>hk) trivial (Below.refl _ _) (Nat.le_refl _) (by simp) ?_;(case hd=>rfl);(case hg=>rfl);(case hr=>first|(go_simp;done)|(go_simp;rfl));(case hp=>exact(dm.one (show Kd.M (Kd.int .u8) _ _ _ (bt a0 eB) [.int .u8 (bt a0 eB)]from rfl) (dm.none _ _)));intro aQE w16 a0W hb nL fM;clear nL fM;(first|rw[←acs.out]at a0W|(simp only[Int.reduceToNat]at a0W;rw[←acs.out]at a0W));have amm:=ah.mk (Kd.R_lower a0W (aJ (zb HB)));replace HB:=ah.mk (ai (zb HB) hb);clear hb a0W;have aM9:=lW (P:=Tryz.prog) Tryz.underlying22 Tryz.underlying5 Tryz.underlying9 (Kd.own_of_R amm.out)))
       go_roundg k1
       case measure=>have:=jd.out;omega
       case rel=>exact⟨(dh++(strOfNums NM)),(wrap64 (eB+1)),zs,zs,H',⟨by have:=jd.out;omega⟩,⟨zb HB⟩⟩
      ·rw[if_neg c15]at H
       exact absurd H (by simp)
    ·rw[if_neg c3]at H
     exact absurd H (by simp)
   ·skip
    have c2b0:=decide_eq_false c2
    clear c2
    obtain rfl:=Option.some.inj H
    go_wp2
    go_ret
    exact⟨ze,zb HB⟩
def gD.f(k:Nat)(a0:ByteArray)(a1:ByteArray):Option (ByteArray×ByteArray):=if a0.toList=([47,101,99,104,111]:List UInt8)then(some ((⟨#[48]⟩:ByteArray),a1))else(if a0.toList=([47,117,112]:List UInt8)then((dQ.f k a1).bind fun a0X=>(some ((⟨#[48]⟩:ByteArray),a0X)))else(if a0.toList=([47,108,101,110]:List UInt8)then((dK.f k (a1.size:Int)).bind fun a0Y=>(some ((⟨#[48]⟩:ByteArray),a0Y)))else(some ((⟨#[49,50]⟩:ByteArray),(⟨#[]⟩:ByteArray)))))
theorem gD.mono:∀a0 a1 k,gM (gD.f k a0 a1) (gD.f (k+1) a0 a1):=by
 intro a0 a1 k
 unfold gD.f
 have m0:=@dQ.mono
 have m1:=@dK.mono
 exact zm
theorem gD.calls(k:Nat)(a0:ByteArray)(a1:ByteArray)(r1:ByteArray)(r2:ByteArray)(w:World)(h:gD.f k a0 a1=some (r1,r2)):
 Calls Tryz.prog 120 #[.string a0,.string a1] w fun e w'=>e= .returned (.tuple #[.string r1,.string r2])∧Below w.heap.size w w':=by
 have HB:=ah.mk (Below.refl w.heap.size w)
 have H:(if a0.toList=([47,101,99,104,111]:List UInt8)then(some ((⟨#[48]⟩:ByteArray),a1))else(if a0.toList=([47,117,112]:List UInt8)then((dQ.f k a1).bind fun a0X=>(some ((⟨#[48]⟩:ByteArray),a0X)))else(if a0.toList=([47,108,101,110]:List UInt8)then((dK.f k (a1.size:Int)).bind fun a0Y=>(some ((⟨#[48]⟩:ByteArray),a0Y)))else(some ((⟨#[49,50]⟩:ByteArray),(⟨#[]⟩:ByteArray))))))=some (r1,r2):=h
 clear h
 replace H:=sp H
 rcases H with⟨c3,H⟩|⟨c3,H⟩
 ·skip
  have c3b0:(a0.toList==([47,101,99,104,111]:List UInt8))=true:=beq_iff_eq.mpr c3
  have c3b1:(a0.toList != ([47,101,99,104,111]:List UInt8))=false:=bne_eq_false_iff_eq.mpr c3
  clear c3
  simp only[Option.some.injEq,Prod.mk.injEq]at H
  obtain⟨rfl,rfl⟩:=H
  go_enter Tryz.func120,Tryz.ntmps120
  go_wp2
  go_ret2
  exact⟨ze,zb HB⟩
 ·skip
  have c3b0:(a0.toList==([47,101,99,104,111]:List UInt8))=false:=beq_eq_false_iff_ne.mpr c3
  have c3b1:(a0.toList != ([47,101,99,104,111]:List UInt8))=true:=bne_iff_ne.mpr c3
  replace H:=sp H
  rcases H with⟨c4,H⟩|⟨c4,H⟩
  ·skip
   have c4b0:(a0.toList==([47,117,112]:List UInt8))=true:=beq_iff_eq.mpr c4
   have c4b1:(a0.toList != ([47,117,112]:List UInt8))=false:=bne_eq_false_iff_eq.mpr c4
   clear c4
   obtain⟨a0X,A5,H⟩:=ob H
   (try dsimp only at H)
   simp only[Option.some.injEq,Prod.mk.injEq]at H
   obtain⟨rfl,rfl⟩:=H
   go_enter Tryz.func120,Tryz.ntmps120
   go_wp2_with (first|((with_reducible refine gq 122 rfl ?_);refine gl (some 13) Tryz.func122 #[.string a1] ?_;(with_reducible refine(dQ.calls k a1 a0X _ A5.out).mono ?_);rintro e w6 ⟨rfl,hb⟩;refine⟨_,rfl,?_⟩;replace HB:=ah.mk (ai (zb HB) hb);(try clear hb)))
   go_ret2
   exact⟨ze,zb HB⟩
  ·skip
   have c4b0:(a0.toList==([47,117,112]:List UInt8))=false:=beq_eq_false_iff_ne.mpr c4
   have c4b1:(a0.toList != ([47,117,112]:List UInt8))=true:=bne_iff_ne.mpr c4
   replace H:=sp H
   rcases H with⟨c7,H⟩|⟨c7,H⟩
   ·skip
    have c7b0:(a0.toList==([47,108,101,110]:List UInt8))=true:=beq_iff_eq.mpr c7
    have c7b1:(a0.toList != ([47,108,101,110]:List UInt8))=false:=bne_eq_false_iff_eq.mpr c7
    clear c7
    obtain⟨a0Y,A8,H⟩:=ob H
    (try dsimp only at H)
    simp only[Option.some.injEq,Prod.mk.injEq]at H
    obtain⟨rfl,rfl⟩:=H
    go_enter Tryz.func120,Tryz.ntmps120
    go_wp2_with (first|((with_reducible refine gq 87 rfl ?_);refine gl (some 18) Tryz.func87 #[.int .i64 (a1.size:Int)] ?_;(with_reducible refine(dK.calls k (a1.size:Int) a0Y _ A8.out).mono ?_);rintro e w9 ⟨rfl,hb⟩;refine⟨_,rfl,?_⟩;replace HB:=ah.mk (ai (zb HB) hb);(try clear hb)))
    go_ret2
    exact⟨ze,zb HB⟩
   ·skip
    have c7b0:(a0.toList==([47,108,101,110]:List UInt8))=false:=beq_eq_false_iff_ne.mpr c7
    have c7b1:(a0.toList != ([47,108,101,110]:List UInt8))=true:=bne_iff_ne.mpr c7
    simp only[Option.some.injEq,Prod.mk.injEq]at H
    obtain⟨rfl,rfl⟩:=H
    go_enter Tryz.func120,Tryz.ntmps120
    go_wp2
    go_ret2
    exact⟨ze,zb HB⟩
def jU.f(k:Nat)(aY:Int)(aA:Int)(jB:List (bf))(cZ:ByteArray)(lT:Bool)(lU:Bool)(lZ:Int)(je:List (bf))(jo:ByteArray)(nI:Bool)(gW:Int)(jf:Int):Option (Int×Int×(List (bf))×ByteArray×Bool×Bool×Int×(List (bf))×ByteArray×Bool×Int×Int):=(dI.f k je (⟨#[58,112,97,116,104]⟩:ByteArray)).bind fun a0Z=>((gD.f k a0Z.1 jo).bind fun NR=>(some (aY,aA,(([(⟨(⟨#[58,115,116,97,116,117,115]⟩:ByteArray),NR.1,false⟩:bf),(⟨(⟨#[107,105,110,100]⟩:ByteArray),(⟨#[116,101,120,116]⟩:ByteArray),false⟩:bf)]:List (bf))),NR.2,false,false,0,je,jo,nI,gW,jf)))
theorem jU.mono:∀a0 a1 a2 a3 a4 a5 a6 a7 a8 a9 MZ R6 k,gM (jU.f k a0 a1 a2 a3 a4 a5 a6 a7 a8 a9 MZ R6) (jU.f (k+1) a0 a1 a2 a3 a4 a5 a6 a7 a8 a9 MZ R6):=by
 intro a0 a1 a2 a3 a4 a5 a6 a7 a8 a9 MZ R6 k
 unfold jU.f
 have m0:=@gD.mono
 have m1:=@dI.mono
 exact zm
theorem jU.calls(k:Nat)(aY:Int)(aA:Int)(ql:Option Addr)(qm:Nat)(jB:List (bf))(cZ:ByteArray)(lT:Bool)(lU:Bool)(lZ:Int)(NS:Nat→Prop)(l8:Value)(je:List (bf))(jo:ByteArray)(nI:Bool)(gW:Int)(jf:Int)(r1:Int)(r2:Int)(r3:List (bf))(r4:ByteArray)(r5:Bool)(r6:Bool)(r7:Int)(r8:List (bf))(r9:ByteArray)(Yw:Bool)(Yx:Int)(Yy:Int)(w0 w:World)(hB:Below w0.heap.size w0 w)(Dk:∀W_,Kept w W_ (fun _=>False)→Kd.C iH W_ ql jB.length jB)(Dl:jB.length≤qm)(amn:Kd.R iH 89 w w0.heap.size NS l8 je)(h:jU.f k aY aA jB cZ lT lU lZ je jo nI gW jf=some (r1,r2,r3,r4,r5,r6,r7,r8,r9,Yw,Yx,Yy)):
 Calls Tryz.prog 112 #[.agg #[.int .i64 aY,.int .i64 aA,.slice ql jB.length qm,.string cZ,.bool lT,.bool lU,.int .i64 lZ,l8,.string jo,.bool nI,.int .i64 gW,.int .i64 jf]] w fun e w'=>∃v2_ v7_:Value,e= .returned (.agg #[.int .i64 r1,.int .i64 r2,v2_,.string r4,.bool r5,.bool r6,.int .i64 r7,v7_,.string r9,.bool Yw,.int .i64 Yx,.int .i64 Yy])∧Kd.R iH 89 w' w0.heap.size (fun k_=>(NS k_∨w.heap.size≤k_)∧some k_≠(v7_:Value).ownBlock) v2_ r3∧Kd.R iH 89 w' w0.heap.size (fun k_=>(NS k_∨w.heap.size≤k_)∧some k_≠(v2_:Value).ownBlock) v7_ r8∧Below w0.heap.size w0 w'∧Kept w w' (fun _=>False):=by
 have aer:=Tryz.underlying39
 have sN:=Tryz.underlying89
 have rP:=ah.mk Dk
 have rQ:=ah.mk Dl
 clear Dk Dl
 have qP:=ah.mk (show Kd.R iH 89 w w0.heap.size (fun k_=>(NS k_∨w.heap.size≤k_)) l8 je from Kd.R_mono amn (fun k_ hk=>(.inl hk)))
 have HK:=ah.mk (Kept.refl w (fun _=>False))
 have HW0:=ah.mk hB.size
 have HB:=ah.mk hB
 clear hB
 have H:((dI.f k je (⟨#[58,112,97,116,104]⟩:ByteArray)).bind fun a0Z=>((gD.f k a0Z.1 jo).bind fun NR=>(some (aY,aA,(([(⟨(⟨#[58,115,116,97,116,117,115]⟩:ByteArray),NR.1,false⟩:bf),(⟨(⟨#[107,105,110,100]⟩:ByteArray),(⟨#[116,101,120,116]⟩:ByteArray),false⟩:bf)]:List (bf))),NR.2,false,false,0,je,jo,nI,gW,jf))))=some (r1,r2,r3,r4,r5,r6,r7,r8,r9,Yw,Yx,Yy):=h
 clear h
 obtain⟨⟨afG,aD5⟩,A2,H⟩:=ob H
 (try dsimp only at H)
 obtain⟨⟨Ri,afH⟩,A3,H⟩:=ob H
 (try dsimp only at H)
 obtain⟨amo,NT⟩:∃y_:List (bf),y_=(([(⟨(⟨#[58,115,116,97,116,117,115]⟩:ByteArray),Ri,false⟩:bf),(⟨(⟨#[107,105,110,100]⟩:ByteArray),(⟨#[116,101,120,116]⟩:ByteArray),false⟩:bf)]:List (bf))):=⟨_,rfl⟩
 replace H:(some (aY,aA,amo,afH,false,false,0,je,jo,nI,gW,jf))=some (r1,r2,r3,r4,r5,r6,r7,r8,r9,Yw,Yx,Yy):=by first|(rw[NT];with_reducible exact H)|(have fH:=(Option.bind_some _ _).symm.trans H;rw[NT];with_reducible exact fH)|(have fH:=(Option.bind_some _ _).symm.trans H;with_reducible exact fH)|with_reducible exact H|(rw[NT];exact H)|exact H
 have acu:=ah.mk NT
 clear NT
 simp only[Option.some.injEq,Prod.mk.injEq]at H
 obtain⟨rfl,rfl,rfl,rfl,rfl,rfl,rfl,rfl,rfl,rfl,rfl,rfl⟩:=H
 obtain⟨Ao4,co4,eo4⟩:=Kd.R_slice qP.out
 subst eo4
 go_enter Tryz.func112,Tryz.ntmps112
 go_wp2_with (first|((with_reducible refine gd 1 rfl ?_);refine bx (N:=1) (cs:=#[.int .i64 aY,.int .i64 aA,.slice ql jB.length qm,.string cZ,.bool lT,.bool lU,.int .i64 lZ,.slice Ao4 je.length co4,.string jo,.bool nI,.int .i64 gW,.int .i64 jf]) (t:=39) ?_;intro acv hg w5 hbox hb;replace qP:=ah.mk (Kd.R_below (zr qP) hb);have rT:=ah.mk (hbox);have amq:=ah.mk ((by rw[hg];exact(kz (w:=w)).1:w.heap.size≤acv));replace HK:=kq hb;have aMa:=ah.mk ((by rw[hg];exact(aJ (zb HB)):w0.heap.size≤acv));replace HB:=ah.mk (ai (zb HB) hb);clear hb hbox hg)|((with_reducible refine gd 2 rfl ?_);refine bx (N:=2) (cs:=#[.int .i64 0,.int .i64 0,.slice none 0 0,.string (⟨#[]⟩:ByteArray),.bool false,.bool false,.int .i64 0,.slice none 0 0,.string (⟨#[]⟩:ByteArray),.bool false,.int .i64 0,.int .i64 0]) (t:=39) ?_;intro a13 hg w6 hbox hb;replace qP:=ah.mk (Kd.R_below (zr qP) hb);have yw:=ah.mk (hbox);have amr:=ah.mk ((by rw[hg];exact(kz (w:=w)).1:w.heap.size≤a13));replace HK:=kq hb;have aMb:=ah.mk ((by rw[hg];exact(aJ (zb HB)):w0.heap.size≤a13));replace HB:=ah.mk (ai (zb HB) hb);obtain⟨Xy,Xz⟩:=nb rT hg;replace rT:=kb rT hb;clear hb hbox hg;have aD2:=Xy.out;have aD3:=Xz.out;obtain⟨BK,BL,af6,af7,af8,af9,afa,afb,afc,afd,a8X,auE,BM,BN,afe,aff,afg,afh,afi,afj,afk,afl,a8Y,auF⟩:=c12 rT)|((with_reducible refine gq 119 rfl ?_);refine gl (some 10) Tryz.func119 #[.slice Ao4 je.length co4,.string (⟨#[58,112,97,116,104]⟩:ByteArray)] ?_;(with_reducible refine(dI.calls k _ _ je (⟨#[58,112,97,116,104]⟩:ByteArray) afG aD5 _ ?aN ?aQ A2.out).mono ?_);(case aN=>exact zc (Kd.R_reads' qP.out).2.2);(case aQ=>exact(Kd.R_reads' qP.out).2.1);rintro e w9 ⟨rfl,hb⟩;refine⟨_,rfl,?_⟩;replace qP:=ah.mk (Kd.R_below (zr qP) hb);replace rT:=kb rT hb;replace yw:=kb yw hb;replace HK:=kq hb;replace HB:=ah.mk (ai (zb HB) hb);(try clear hb);obtain⟨EQ,ER,Uz,a7y,auG,auH,auI,auJ,auK,auL,ams,amt,ES,EU,UA,a7z,auM,auN,auO,auP,auQ,auR,amu,amv⟩:=c12 rT)|((with_reducible refine gq 120 rfl ?_);refine gl (some 17) Tryz.func120 #[.string afG,.string jo] ?_;(with_reducible refine(gD.calls k afG jo Ri afH _ A3.out).mono ?_);rintro e w11 ⟨rfl,hb⟩;refine⟨_,rfl,?_⟩;replace qP:=ah.mk (Kd.R_below (zr qP) hb);replace rT:=kb rT hb;replace yw:=kb yw hb;replace HK:=kq hb;replace HB:=ah.mk (ai (zb HB) hb);(try clear hb))|((with_reducible refine gd 23 rfl ?_);refine Kd.R_lit iH _ 89 ?hg (N:=23) ?hd (xs:=([(⟨(⟨#[58,115,116,97,116,117,115]⟩:ByteArray),Ri,false⟩:bf),(⟨(⟨#[107,105,110,100]⟩:ByteArray),(⟨#[116,101,120,116]⟩:ByteArray),false⟩:bf)]:List (bf))) (inner:=[.string (⟨#[58,115,116,97,116,117,115]⟩:ByteArray),.string Ri,.bool false,.string (⟨#[107,105,110,100]⟩:ByteArray),.string (⟨#[116,101,120,116]⟩:ByteArray),.bool false]) (ok:=fun _=>True) (okp:=fun _=>True) ?hr ?hp (fun _ hk=>hk) trivial (Below.refl _ _) (Nat.le_refl _) (by simp) ?_;(case hd=>rfl);(case hg=>rfl);(case hr=>first|(go_simp;done)|(go_simp;rfl));(case hp=>exact(dm.c3 (show Kd.M iH _ _ _ (⟨(⟨#[58,115,116,97,116,117,115]⟩:ByteArray),Ri,false⟩:bf) [.string (⟨#[58,115,116,97,116,117,115]⟩:ByteArray),.string Ri,.bool false]from(lK _ _ _ (⟨(⟨#[58,115,116,97,116,117,115]⟩:ByteArray),Ri,false⟩:bf))) (dm.c3 (show Kd.M iH _ _ _ (⟨(⟨#[107,105,110,100]⟩:ByteArray),(⟨#[116,101,120,116]⟩:ByteArray),false⟩:bf) [.string (⟨#[107,105,110,100]⟩:ByteArray),.string (⟨#[116,101,120,116]⟩:ByteArray),.bool false]from(lK _ _ _ (⟨(⟨#[107,105,110,100]⟩:ByteArray),(⟨#[116,101,120,116]⟩:ByteArray),false⟩:bf))) (dm.none _ _))));intro aQF Xu uQ hb nL fM;clear nL fM;(first|rw[←acu.out]at uQ|(simp only[Int.reduceToNat]at uQ;rw[←acu.out]at uQ));have acw:=ah.mk (Kd.R_lower (Kd.R_new' (Kd.R_newM (M:=fun k_=>(NS k_∨w.heap.size≤k_)) uQ (by first|exact HK.out.1|exact(show Kept w _ (fun _=>False)from by repeat(first|(with_reducible first|exact HK.out|apply Kept.alloc|apply Kept.drewN|apply Kept.drew|refine Kept.setCell ?_ (.inr amq.out) _|refine Kept.setCell ?_ (.inr amr.out) _)|exact HK.out)).1) (fun k_ h_=>.inr h_)) (Kd.R_lt (zr qP))) (aJ (zb HB)));replace qP:=ah.mk (Kd.R_elder' (zr qP) (Kd.R_base uQ) hb);replace rT:=kb rT hb;replace yw:=kb yw hb;replace HK:=kq hb;replace HB:=ah.mk (ai (zb HB) hb);clear hb uQ;obtain⟨afI,afJ,afK⟩:=Kd.R_slice acw.out;subst afK;obtain⟨zM,zN,zO,UB,auS,auT,auU,auV,auW,auX,amw,amx,zP,zQ,zR,UC,auY,auZ,av0,av1,av2,av3,amy,amz⟩:=c12 rT;obtain⟨EW,EX,Kj,Kk,a7N,a7O,a7P,a7Q,a7R,a7S,a0x,a0y,EY,EZ,Kl,Km,a7T,a7U,a7V,a7W,a7X,a7Y,a0z,a0A⟩:=c12 yw))
 refine bodyPost_ret (results_cell_row rfl _ _ a13 39 #[.int .i64 aY,.int .i64 aA,.slice afI amo.length afJ,.string afH,.bool false,.bool false,.int .i64 0,.slice Ao4 je.length co4,.string jo,.bool nI,.int .i64 gW,.int .i64 jf] (0,0) _ rfl (zp yw) Tryz.underlying39 rfl (by kernel_rfl)) rfl ?_
 exact⟨_,_,ze,(Kd.R_mono (qj (Kd.R_types (Kd.R_types acw.out rT.out (by decide)) yw.out (by decide))) (fun _ hk=>⟨hk.1.1.1.1,hk.1.1.2⟩)),(Kd.R_mono (qj (Kd.R_types (Kd.R_types qP.out rT.out (by decide)) yw.out (by decide))) (fun _ hk=>⟨hk.1.1.1,hk.1.1.2⟩)),zb HB,kz⟩
def dG.l0:Nat→ByteArray→Int→ByteArray→Option (ByteArray)
 |0,_,_,_=>none
 |k+1,x0,x1,x5=>if x1>0 then(if(Int.tmod x1 2)=1 then(if x5.size+x0.size≤9223372036854775807 then(if x0.size+x0.size≤9223372036854775807 then(dG.l0 k (x0++x0) (wrap64 (Int.tdiv x1 2)) (x5++x0))else(none))else(none))else(if x0.size+x0.size≤9223372036854775807 then(dG.l0 k (x0++x0) (wrap64 (Int.tdiv x1 2)) x5)else(none)))else(some x5)
def dG.f(k:Nat)(a0:ByteArray)(a1:Int):Option (ByteArray):=dG.l0 k a0 a1 (⟨#[]⟩:ByteArray)
theorem dG.mono_l:∀k,(∀y0 y1 y2,gM (dG.l0 k y0 y1 y2) (dG.l0 (k+1) y0 y1 y2))
 |0=>fun _ _ _ r h=>by simp[dG.l0]at h
 |k+1=>by
  have mW:=dG.mono_l k
  ·intro y0 y1 y2
   unfold dG.l0
   exact zm
theorem dG.mono:∀a0 a1 k,gM (dG.f k a0 a1) (dG.f (k+1) a0 a1):=by
 intro a0 a1 k
 have mW:=dG.mono_l k
 unfold dG.f
 exact zm
theorem dG.calls(k:Nat)(a0:ByteArray)(a1:Int)(r:ByteArray)(w:World)(h:dG.f k a0 a1=some r):
 Calls Tryz.prog 47 #[.string a0,.int .i64 a1] w fun e w'=>e= .returned (.string r)∧aT w w':=by
 have H:(dG.l0 k a0 a1 (⟨#[]⟩:ByteArray))=some r:=h
 clear h
 have H':=ah.mk H
 clear H
 go_enter Tryz.func47,Tryz.ntmps47
 go_wp2
 go_loopg [0,1,5] k (fun kq v0 v1 v5 w'=>∃(lV:ByteArray)(oD:Int)(fP:ByteArray),v0= .string lV∧v1= .int .i64 oD∧v5= .string fP∧ah (dG.l0 kq lV oD fP=some r)∧ah (kq≤k)∧aT w w')
 case atStart=>exact⟨(a0),(a1),((⟨#[]⟩:ByteArray)),zs,zs,zs,H',⟨Nat.le_refl _⟩,by repeat(first|exact aT.refl _|apply aT.step)⟩
 case round=>
  clear H'
  try clear p2
  obtain⟨lV,oD,fP,rfl,rfl,rfl,HA,jd,⟨m1,rfl⟩⟩:=hrel
  cases gk with
  |zero=>exact absurd HA.out (by simp[dG.l0])
  |succ k1=>
   have H:=HA.out
   clear HA
   simp only[dG.l0]at H
   replace H:=sp H
   rcases H with⟨c3,H⟩|⟨c3,H⟩
   ·skip
    have c3b0:=decide_eq_true c3
    clear c3
    by_cases c4:(Int.tmod oD 2)=1
    ·rw[if_pos c4]at H
     have c4b0:((Int.tmod oD 2)==1)=true:=beq_iff_eq.mpr c4
     have c4b1:((Int.tmod oD 2) != 1)=false:=bne_eq_false_iff_eq.mpr c4
     clear c4
     by_cases c5:fP.size+lV.size≤9223372036854775807
     ·rw[if_pos c5]at H
      have c5b0:=eq_true c5
      have c5b1:=decide_eq_true c5
      try have c5b2:(9223372036854775807<fP.size+lV.size)=False:=eq_false (Nat.not_lt.2 c5)
      by_cases c6:lV.size+lV.size≤9223372036854775807
      ·rw[if_pos c6]at H
       have c6b0:=eq_true c6
       have c6b1:=decide_eq_true c6
       try have c6b2:(9223372036854775807<lV.size+lV.size)=False:=eq_false (Nat.not_lt.2 c6)
       have H':=ah.mk H
       clear H
       go_wp2
       go_roundg k1
       case measure=>have:=jd.out;omega
       case rel=>exact⟨(lV++lV),(wrap64 (Int.tdiv oD 2)),(fP++lV),zs,zs,zs,H',⟨by have:=jd.out;omega⟩,by repeat(first|exact aT.refl _|apply aT.step)⟩
      ·rw[if_neg c6]at H
       exact absurd H (by simp)
     ·rw[if_neg c5]at H
      exact absurd H (by simp)
    ·rw[if_neg c4]at H
     have c4b0:((Int.tmod oD 2)==1)=false:=beq_eq_false_iff_ne.mpr c4
     have c4b1:((Int.tmod oD 2) != 1)=true:=bne_iff_ne.mpr c4
     by_cases c7:lV.size+lV.size≤9223372036854775807
     ·rw[if_pos c7]at H
      have c7b0:=eq_true c7
      have c7b1:=decide_eq_true c7
      try have c7b2:(9223372036854775807<lV.size+lV.size)=False:=eq_false (Nat.not_lt.2 c7)
      have H':=ah.mk H
      clear H
      go_wp2
      go_roundg k1
      case measure=>have:=jd.out;omega
      case rel=>exact⟨(lV++lV),(wrap64 (Int.tdiv oD 2)),(fP),zs,zs,zs,H',⟨by have:=jd.out;omega⟩,by repeat(first|exact aT.refl _|apply aT.step)⟩
     ·rw[if_neg c7]at H
      exact absurd H (by simp)
   ·skip
    have c3b0:=decide_eq_false c3
    clear c3
    obtain rfl:=Option.some.inj H
    go_wp2
    go_ret
    exact⟨zs,by repeat(first|exact aT.refl _|apply aT.step)⟩
def dx.l0:Nat→ByteArray→Int→List Int→Int→Option (ByteArray×Int)
 |0,_,_,_,_=>none
 |k+1,x3,x4,x1000,kH=>if x4>0 then((au.f k x1000 kH 24).bind fun Vn=>((au.f k x1000 Vn.2 4).bind fun a14=>(if a14.1=0 then((au.f k x1000 a14.2 39).bind fun Vo=>(if 0≤Vo.1 then(if Vo.1<39 then((bR.f (wrap64 (bt (⟨#[101,116,97,111,105,110,115,114,104,108,48,49,50,51,52,53,54,55,56,57,100,99,117,109,102,112,103,119,121,98,118,107,120,106,113,122,58,47,45]⟩:ByteArray) Vo.1))).bind fun Rj=>(if x3.size+Rj.size≤9223372036854775807 then(dx.l0 k (x3++Rj) (wrap64 (x4-1)) x1000 Vo.2)else(none)))else(none))else(none)))else(if 0≤Vn.1 then(if Vn.1<39 then((bR.f (wrap64 (bt (⟨#[101,116,97,111,105,110,115,114,104,108,48,49,50,51,52,53,54,55,56,57,100,99,117,109,102,112,103,119,121,98,118,107,120,106,113,122,58,47,45]⟩:ByteArray) Vn.1))).bind fun Rk=>(if x3.size+Rk.size≤9223372036854775807 then(dx.l0 k (x3++Rk) (wrap64 (x4-1)) x1000 a14.2)else(none)))else(none))else(none)))))else((au.f k x1000 kH 24).bind fun NU=>(if NU.1=0 then(if x3.size+1≤9223372036854775807 then(some (x3++(⟨#[65]⟩:ByteArray),NU.2))else(none))else(if NU.1=1 then((au.f k x1000 NU.2 4).bind fun acy=>((dG.f k (⟨#[101]⟩:ByteArray) (wrap64 (15+acy.1))).bind fun afL=>(some (afL,acy.2))))else(some (x3,NU.2)))))
def dx.f(k:Nat)(bN:List Int)(gy:Int):Option (ByteArray×Int):=(au.f k bN gy 9).bind fun NV=>((au.f k bN NV.2 6).bind fun NW=>(dx.l0 k (⟨#[]⟩:ByteArray) (wrap64 (NV.1+(wrap64 ((wrap64 (Int.tdiv NW.1 5))*8)))) bN NW.2))
theorem dx.mono_l:∀k,(∀y0 y1 y2 y3,gM (dx.l0 k y0 y1 y2 y3) (dx.l0 (k+1) y0 y1 y2 y3))
 |0=>fun _ _ _ _ r h=>by simp[dx.l0]at h
 |k+1=>by
  have mW:=dx.mono_l k
  ·intro y0 y1 y2 y3
   unfold dx.l0
   have m0:=@dG.mono
   have m1:=@au.mono
   exact zm
theorem dx.mono:∀a0 a1 k,gM (dx.f k a0 a1) (dx.f (k+1) a0 a1):=by
 intro a0 a1 k
 have mW:=dx.mono_l k
 unfold dx.f
 have m0:=@dG.mono
 have m1:=@au.mono
 exact zm
theorem dx.calls(k:Nat)(g:Nat)(bN:List Int)(gy:Int)(r1:ByteArray)(r2:Int)(w0 w:World)(hI:aM w0 w g bN gy)(hB:Below w0.heap.size w0 w)(h:dx.f k bN gy=some (r1,r2)):
 Calls Tryz.prog 58 #[.pointer (some ⟨g,0,none⟩)] w fun e w'=>e= .returned (.string r1)∧aM w0 w' g bN r2∧Below w0.heap.size w0 w'∧ax w w' g none:=by
 have HI0:=ah.mk hI
 have HK:=ah.mk (ax.refl w g none)
 have HL:=ah.mk hB.size
 clear hI
 have HW0:=ah.mk hB.size
 have HB:=ah.mk hB
 clear hB
 have H:((au.f k bN gy 9).bind fun NV=>((au.f k bN NV.2 6).bind fun NW=>(dx.l0 k (⟨#[]⟩:ByteArray) (wrap64 (NV.1+(wrap64 ((wrap64 (Int.tdiv NW.1 5))*8)))) bN NW.2)))=some (r1,r2):=h
 clear h
 obtain⟨⟨amA,amB⟩,A2,H⟩:=ob H
 (try dsimp only at H)
 obtain⟨⟨amC,amD⟩,A3,H⟩:=ob H
 (try dsimp only at H)
 have H':=ah.mk H
 clear H
 go_enter Tryz.func58,Tryz.ntmps58
 go_wp2_with (first|((with_reducible refine gq 22 rfl ?_);refine gl (some 7) Tryz.func22 #[.pointer (some ⟨g,0,none⟩),.int .i64 9] ?_;(with_reducible refine(au.calls k g bN gy 9 amA amB w0 _ ?aN ?aQ A2.out).mono ?_);(case aN=>exact eF HI0);(case aQ=>exact gL HB);rintro e w4 ⟨rfl,hi,hb,hk⟩;refine⟨_,rfl,?_⟩;replace HK:=ah.mk (ax.trans (zh HK) hk (.inl rfl));replace HB:=ah.mk (hb);replace HI0:=ah.mk (hi);(try clear hb);(try clear hk);(try clear hi))|((with_reducible refine gq 22 rfl ?_);refine gl (some 9) Tryz.func22 #[.pointer (some ⟨g,0,none⟩),.int .i64 6] ?_;(with_reducible refine(au.calls k g bN amB 6 amC amD w0 _ ?aN ?aQ A3.out).mono ?_);(case aN=>exact eF HI0);(case aQ=>exact gL HB);rintro e w5 ⟨rfl,hi,hb,hk⟩;refine⟨_,rfl,?_⟩;replace HK:=ah.mk (ax.trans (zh HK) hk (.inl rfl));replace HB:=ah.mk (hb);replace HI0:=ah.mk (hi);(try clear hb);(try clear hk);(try clear hi)))
 go_loopg [3,4] k (fun kq v3 v4 w'=>∃(dh:ByteArray)(eB:Int)(iD:Int),v3= .string dh∧v4= .int .i64 eB∧ah (dx.l0 kq dh eB bN iD=some (r1,r2))∧ah (kq≤k)∧ah (aM w0 w' g bN iD)∧ah (ax w w' g none)∧ah (Below w0.heap.size w0 w'))
 case atStart=>exact⟨((⟨#[]⟩:ByteArray)),(wrap64 (amA+(wrap64 ((wrap64 (Int.tdiv amC 5))*8)))),(amD),zs,zs,H',⟨Nat.le_refl _⟩,⟨eF HI0⟩,⟨zh HK⟩,⟨gL HB⟩⟩
 case round=>
  clear H'
  try clear c2
  try clear p2
  try clear c5
  obtain⟨dh,eB,iD,rfl,rfl,HA,jd,HI0,HK,HB⟩:=hrel
  cases gk with
  |zero=>exact absurd HA.out (by simp[dx.l0])
  |succ k1=>
   have H:=HA.out
   clear HA
   simp only[dx.l0]at H
   replace H:=sp H
   rcases H with⟨c6,H⟩|⟨c6,H⟩
   ·skip
    have c6b0:=decide_eq_true c6
    clear c6
    obtain⟨⟨NY,amE⟩,A7,H⟩:=ob H
    (try dsimp only at H)
    obtain⟨⟨XA,afM⟩,A8,H⟩:=ob H
    (try dsimp only at H)
    have HC9:=ah.mk H
    clear H
    go_upto_if 21 with(first|((with_reducible refine gq 22 rfl ?_);refine gl (some 18) Tryz.func22 #[.pointer (some ⟨g,0,none⟩),.int .i64 24] ?_;(with_reducible refine(au.calls k1 g bN iD 24 NY amE w0 _ ?aN ?aQ A7.out).mono ?_);(case aN=>exact eF HI0);(case aQ=>exact gL HB);rintro e w10 ⟨rfl,hi,hb,hk⟩;refine⟨_,rfl,?_⟩;replace HK:=ah.mk (ax.trans (zh HK) hk (.inl rfl));replace HB:=ah.mk (hb);replace HI0:=ah.mk (hi);(try clear hb);(try clear hk);(try clear hi))|((with_reducible refine gq 22 rfl ?_);refine gl (some 20) Tryz.func22 #[.pointer (some ⟨g,0,none⟩),.int .i64 4] ?_;(with_reducible refine(au.calls k1 g bN amE 4 XA afM w0 _ ?aN ?aQ A8.out).mono ?_);(case aN=>exact eF HI0);(case aQ=>exact gL HB);rintro e w11 ⟨rfl,hi,hb,hk⟩;refine⟨_,rfl,?_⟩;replace HK:=ah.mk (ax.trans (zh HK) hk (.inl rfl));replace HB:=ah.mk (hb);replace HI0:=ah.mk (hi);(try clear hb);(try clear hk);(try clear hi)))
    (try simp only[Act.put,s1,s2,s3])
    have H:=HC9.out
    clear HC9
    by_cases c12:XA=0
    ·rw[if_pos c12]at H
     have c12b0:(XA==0)=true:=beq_iff_eq.mpr c12
     have c12b1:(XA != 0)=false:=bne_eq_false_iff_eq.mpr c12
     clear c12
     (first|rw[c12b0]|rw[c12b1]|rw[c12b2]|(simp only[gI,iB];rw[c12b0])|skip)
     obtain⟨⟨NZ,amF⟩,A13,H⟩:=ob H
     (try dsimp only at H)
     by_cases c14:0≤NZ
     ·rw[if_pos c14]at H
      have c14b0:=decide_eq_true c14
      clear c14
      by_cases c15:NZ<39
      ·rw[if_pos c15]at H
       have c15b0:=decide_eq_true c15
       clear c15
       obtain⟨Rj,Xw,H⟩:=ob H
       (try dsimp only at H)
       by_cases c18:dh.size+Rj.size≤9223372036854775807
       ·rw[if_pos c18]at H
        have c18b0:=eq_true c18
        have c18b1:=decide_eq_true c18
        try have c18b2:(9223372036854775807<dh.size+Rj.size)=False:=eq_false (Nat.not_lt.2 c18)
        have H':=ah.mk H
        clear H
        go_wp2_with (first|((with_reducible refine gq 22 rfl ?_);refine gl (some 23) Tryz.func22 #[.pointer (some ⟨g,0,none⟩),.int .i64 39] ?_;(with_reducible refine(au.calls k1 g bN afM 39 NZ amF w0 _ ?aN ?aQ A13.out).mono ?_);(case aN=>exact eF HI0);(case aQ=>exact gL HB);rintro e w19 ⟨rfl,hi,hb,hk⟩;refine⟨_,rfl,?_⟩;replace HK:=ah.mk (ax.trans (zh HK) hk (.inl rfl));replace HB:=ah.mk (hb);replace HI0:=ah.mk (hi);(try clear hb);(try clear hk);(try clear hi);have p16:0≤(NZ:Int):=of_decide_eq_true za;have q16:NZ<(39:Int):=of_decide_eq_true za;have hx16:=fF (⟨#[101,116,97,111,105,110,115,114,104,108,48,49,50,51,52,53,54,55,56,57,100,99,117,109,102,112,103,119,121,98,118,107,120,106,113,122,58,47,45]⟩:ByteArray) NZ;replace p16:=eq_true p16;replace q16:=eq_true q16)|((with_reducible refine gq 59 rfl ?_);refine gl (some 28) Tryz.func59 #[.int .i64 (wrap64 (bt (⟨#[101,116,97,111,105,110,115,114,104,108,48,49,50,51,52,53,54,55,56,57,100,99,117,109,102,112,103,119,121,98,118,107,120,106,113,122,58,47,45]⟩:ByteArray) NZ))] ?_;(with_reducible refine(bR.calls (wrap64 (bt (⟨#[101,116,97,111,105,110,115,114,104,108,48,49,50,51,52,53,54,55,56,57,100,99,117,109,102,112,103,119,121,98,118,107,120,106,113,122,58,47,45]⟩:ByteArray) NZ)) Rj _ Xw.out).mono ?_);rintro e w20 ⟨rfl,hb⟩;refine⟨_,rfl,?_⟩;replace HI0:=ah.mk (aM.below (eF HI0) hb);replace HK:=ah.mk (ax.trans (zh HK) (ax.of_below hb g none) (.inl rfl));replace HB:=ah.mk (ai (gL HB) hb);(try clear hb)))
        go_roundg k1
        case measure=>have:=jd.out;omega
        case rel=>exact⟨(dh++Rj),(wrap64 (eB-1)),(amF),zs,zs,H',⟨by have:=jd.out;omega⟩,⟨eF HI0⟩,⟨zh HK⟩,⟨gL HB⟩⟩
       ·rw[if_neg c18]at H
        exact absurd H (by simp)
      ·rw[if_neg c15]at H
       exact absurd H (by simp)
     ·rw[if_neg c14]at H
      exact absurd H (by simp)
    ·rw[if_neg c12]at H
     have c12b0:(XA==0)=false:=beq_eq_false_iff_ne.mpr c12
     have c12b1:(XA != 0)=true:=bne_iff_ne.mpr c12
     (first|rw[c12b0]|rw[c12b1]|rw[c12b2]|(simp only[gI,iB];rw[c12b0])|skip)
     by_cases c21:0≤NY
     ·rw[if_pos c21]at H
      have c21b0:=decide_eq_true c21
      clear c21
      by_cases Mt:NY<39
      ·rw[if_pos Mt]at H
       have c22b0:=decide_eq_true Mt
       clear Mt
       obtain⟨Rk,A24,H⟩:=ob H
       (try dsimp only at H)
       by_cases Hl:dh.size+Rk.size≤9223372036854775807
       ·rw[if_pos Hl]at H
        have c25b0:=eq_true Hl
        have c25b1:=decide_eq_true Hl
        try have c25b2:(9223372036854775807<dh.size+Rk.size)=False:=eq_false (Nat.not_lt.2 Hl)
        have H':=ah.mk H
        clear H
        have p23:0≤(NY:Int):=of_decide_eq_true za
        have q23:NY<(39:Int):=of_decide_eq_true za
        have aQG:=fF (⟨#[101,116,97,111,105,110,115,114,104,108,48,49,50,51,52,53,54,55,56,57,100,99,117,109,102,112,103,119,121,98,118,107,120,106,113,122,58,47,45]⟩:ByteArray) NY
        replace p23:=eq_true p23
        replace q23:=eq_true q23
        go_wp2_with (first|((with_reducible refine gq 59 rfl ?_);refine gl (some 28) Tryz.func59 #[.int .i64 (wrap64 (bt (⟨#[101,116,97,111,105,110,115,114,104,108,48,49,50,51,52,53,54,55,56,57,100,99,117,109,102,112,103,119,121,98,118,107,120,106,113,122,58,47,45]⟩:ByteArray) NY))] ?_;(with_reducible refine(bR.calls (wrap64 (bt (⟨#[101,116,97,111,105,110,115,114,104,108,48,49,50,51,52,53,54,55,56,57,100,99,117,109,102,112,103,119,121,98,118,107,120,106,113,122,58,47,45]⟩:ByteArray) NY)) Rk _ A24.out).mono ?_);rintro e w26 ⟨rfl,hb⟩;refine⟨_,rfl,?_⟩;replace HI0:=ah.mk (aM.below (eF HI0) hb);replace HK:=ah.mk (ax.trans (zh HK) (ax.of_below hb g none) (.inl rfl));replace HB:=ah.mk (ai (gL HB) hb);(try clear hb)))
        go_roundg k1
        case measure=>have:=jd.out;omega
        case rel=>exact⟨(dh++Rk),(wrap64 (eB-1)),(afM),zs,zs,H',⟨by have:=jd.out;omega⟩,⟨eF HI0⟩,⟨zh HK⟩,⟨gL HB⟩⟩
       ·rw[if_neg Hl]at H
        exact absurd H (by simp)
      ·rw[if_neg Mt]at H
       exact absurd H (by simp)
     ·rw[if_neg c21]at H
      exact absurd H (by simp)
   ·skip
    have c6b0:=decide_eq_false c6
    clear c6
    obtain⟨⟨G8,a9e⟩,A27,H⟩:=ob H
    (try dsimp only at H)
    replace H:=sp H
    rcases H with⟨c28,H⟩|⟨c28,H⟩
    ·skip
     have c28b0:(G8==0)=true:=beq_iff_eq.mpr c28
     have c28b1:(G8 != 0)=false:=bne_eq_false_iff_eq.mpr c28
     clear c28
     by_cases N9:dh.size+1≤9223372036854775807
     ·rw[if_pos N9]at H
      have c29b0:=eq_true N9
      have c29b1:=decide_eq_true N9
      try have c29b2:(9223372036854775807<dh.size+1)=False:=eq_false (Nat.not_lt.2 N9)
      simp only[Option.some.injEq,Prod.mk.injEq]at H
      obtain⟨rfl,rfl⟩:=H
      go_wp2_with (first|((with_reducible refine gq 22 rfl ?_);refine gl (some 31) Tryz.func22 #[.pointer (some ⟨g,0,none⟩),.int .i64 24] ?_;(with_reducible refine(au.calls k1 g bN iD 24 G8 a9e w0 _ ?aN ?aQ A27.out).mono ?_);(case aN=>exact eF HI0);(case aQ=>exact gL HB);rintro e w30 ⟨rfl,hi,hb,hk⟩;refine⟨_,rfl,?_⟩;replace HK:=ah.mk (ax.trans (zh HK) hk (.inl rfl));replace HB:=ah.mk (hb);replace HI0:=ah.mk (hi);(try clear hb);(try clear hk);(try clear hi)))
      go_ret
      exact⟨ze,eF HI0,gL HB,zh HK⟩
     ·rw[if_neg N9]at H
      exact absurd H (by simp)
    ·skip
     have c28b0:(G8==0)=false:=beq_eq_false_iff_ne.mpr c28
     have c28b1:(G8 != 0)=true:=bne_iff_ne.mpr c28
     replace H:=sp H
     rcases H with⟨c31,H⟩|⟨c31,H⟩
     ·skip
      have c31b0:(G8==1)=true:=beq_iff_eq.mpr c31
      have c31b1:(G8 != 1)=false:=bne_eq_false_iff_eq.mpr c31
      clear c31
      obtain⟨⟨afO,aD6⟩,A32,H⟩:=ob H
      (try dsimp only at H)
      obtain⟨afL,A33,H⟩:=ob H
      (try dsimp only at H)
      simp only[Option.some.injEq,Prod.mk.injEq]at H
      obtain⟨rfl,rfl⟩:=H
      go_wp2_with (first|((with_reducible refine gq 22 rfl ?_);refine gl (some 31) Tryz.func22 #[.pointer (some ⟨g,0,none⟩),.int .i64 24] ?_;(with_reducible refine(au.calls k1 g bN iD 24 G8 a9e w0 _ ?aN ?aQ A27.out).mono ?_);(case aN=>exact eF HI0);(case aQ=>exact gL HB);rintro e Mw ⟨rfl,hi,hb,hk⟩;refine⟨_,rfl,?_⟩;replace HK:=ah.mk (ax.trans (zh HK) hk (.inl rfl));replace HB:=ah.mk (hb);replace HI0:=ah.mk (hi);(try clear hb);(try clear hk);(try clear hi))|((with_reducible refine gq 22 rfl ?_);refine gl (some 39) Tryz.func22 #[.pointer (some ⟨g,0,none⟩),.int .i64 4] ?_;(with_reducible refine(au.calls k1 g bN a9e 4 afO aD6 w0 _ ?aN ?aQ A32.out).mono ?_);(case aN=>exact eF HI0);(case aQ=>exact gL HB);rintro e w35 ⟨rfl,hi,hb,hk⟩;refine⟨_,rfl,?_⟩;replace HK:=ah.mk (ax.trans (zh HK) hk (.inl rfl));replace HB:=ah.mk (hb);replace HI0:=ah.mk (hi);(try clear hb);(try clear hk);(try clear hi))|((with_reducible refine gq 47 rfl ?_);refine gl (some 41) Tryz.func47 #[.string (⟨#[101]⟩:ByteArray),.int .i64 (wrap64 (15+afO))] ?_;(with_reducible refine(dG.calls k1 (⟨#[101]⟩:ByteArray) (wrap64 (15+afO)) afL _ A33.out).mono ?_);rintro e w' ⟨rfl,⟨nd,rfl⟩⟩;refine⟨_,rfl,?_⟩))
      go_ret
      exact⟨ze,eF HI0,gL HB,zh HK⟩
     ·skip
      have c31b0:(G8==1)=false:=beq_eq_false_iff_ne.mpr c31
      have c31b1:(G8 != 1)=true:=bne_iff_ne.mpr c31
      simp only[Option.some.injEq,Prod.mk.injEq]at H
      obtain⟨rfl,rfl⟩:=H
      go_wp2_with (first|((with_reducible refine gq 22 rfl ?_);refine gl (some 31) Tryz.func22 #[.pointer (some ⟨g,0,none⟩),.int .i64 24] ?_;(with_reducible refine(au.calls k1 g bN iD 24 G8 a9e w0 _ ?aN ?aQ A27.out).mono ?_);(case aN=>exact eF HI0);(case aQ=>exact gL HB);rintro e w36 ⟨rfl,hi,hb,hk⟩;refine⟨_,rfl,?_⟩;replace HK:=ah.mk (ax.trans (zh HK) hk (.inl rfl));replace HB:=ah.mk (hb);replace HI0:=ah.mk (hi);(try clear hb);(try clear hk);(try clear hi)))
      go_ret
      exact⟨ze,eF HI0,gL HB,zh HK⟩
def eU.f(k:Nat)(bN:List Int)(gy:Int):Option (ByteArray×ByteArray×Bool×Int):=(bX.f k bN gy (([(⟨#[58,112,97,116,104]⟩:ByteArray),(⟨#[58,115,116,97,116,117,115]⟩:ByteArray),(⟨#[107,105,110,100]⟩:ByteArray),(⟨#[115,105,122,101]⟩:ByteArray),(⟨#[116,101]⟩:ByteArray),(⟨#[97]⟩:ByteArray),(⟨#[98]⟩:ByteArray),(⟨#[107,101,121]⟩:ByteArray)]:List ByteArray))).bind fun wz=>((bX.f k bN wz.2 (([(⟨#[]⟩:ByteArray),(⟨#[48]⟩:ByteArray),(⟨#[49,50]⟩:ByteArray),(⟨#[116,101,120,116]⟩:ByteArray),(⟨#[116,114,97,105,108,101,114,115]⟩:ByteArray),(⟨#[47,101,99,104,111]⟩:ByteArray),(⟨#[120]⟩:ByteArray),(⟨#[121,49]⟩:ByteArray),(⟨#[97,98,99]⟩:ByteArray)]:List ByteArray))).bind fun qQ=>((au.f k bN qQ.2 8).bind fun nS=>((au.f k bN nS.2 24).bind fun mg=>(if mg.1=0 then((bX.f k bN mg.2 (([(⟨#[]⟩:ByteArray),(⟨#[65]⟩:ByteArray),(⟨#[97,97,97,97,97,97,97,97,97,97,97,97,97,97,97,97,97]⟩:ByteArray)]:List ByteArray))).bind fun rU=>(some (rU.1,qQ.1,(nS.1==0),rU.2)))else(if mg.1=1 then((dx.f k bN mg.2).bind fun wB=>(some (wz.1,wB.1,(nS.1==0),wB.2)))else(some (wz.1,qQ.1,(nS.1==0),mg.2)))))))
theorem eU.mono:∀a0 a1 k,gM (eU.f k a0 a1) (eU.f (k+1) a0 a1):=by
 intro a0 a1 k
 unfold eU.f
 have m0:=@bX.mono
 have m1:=@au.mono
 have m2:=@dx.mono
 exact zm
theorem eU.calls(k:Nat)(g:Nat)(bN:List Int)(gy:Int)(r1:ByteArray)(r2:ByteArray)(r3:Bool)(r4:Int)(w0 w:World)(hI:aM w0 w g bN gy)(hB:Below w0.heap.size w0 w)(h:eU.f k bN gy=some (r1,r2,r3,r4)):
 Calls Tryz.prog 72 #[.pointer (some ⟨g,0,none⟩)] w fun e w'=>e= .returned (.agg #[.string r1,.string r2,.bool r3])∧aM w0 w' g bN r4∧Below w0.heap.size w0 w'∧ax w w' g none:=by
 have sN:=Tryz.underlying89
 have HI0:=ah.mk hI
 have HK:=ah.mk (ax.refl w g none)
 have HL:=ah.mk hB.size
 clear hI
 have HW0:=ah.mk hB.size
 have HB:=ah.mk hB
 clear hB
 have H:((bX.f k bN gy (([(⟨#[58,112,97,116,104]⟩:ByteArray),(⟨#[58,115,116,97,116,117,115]⟩:ByteArray),(⟨#[107,105,110,100]⟩:ByteArray),(⟨#[115,105,122,101]⟩:ByteArray),(⟨#[116,101]⟩:ByteArray),(⟨#[97]⟩:ByteArray),(⟨#[98]⟩:ByteArray),(⟨#[107,101,121]⟩:ByteArray)]:List ByteArray))).bind fun wz=>((bX.f k bN wz.2 (([(⟨#[]⟩:ByteArray),(⟨#[48]⟩:ByteArray),(⟨#[49,50]⟩:ByteArray),(⟨#[116,101,120,116]⟩:ByteArray),(⟨#[116,114,97,105,108,101,114,115]⟩:ByteArray),(⟨#[47,101,99,104,111]⟩:ByteArray),(⟨#[120]⟩:ByteArray),(⟨#[121,49]⟩:ByteArray),(⟨#[97,98,99]⟩:ByteArray)]:List ByteArray))).bind fun qQ=>((au.f k bN qQ.2 8).bind fun nS=>((au.f k bN nS.2 24).bind fun mg=>(if mg.1=0 then((bX.f k bN mg.2 (([(⟨#[]⟩:ByteArray),(⟨#[65]⟩:ByteArray),(⟨#[97,97,97,97,97,97,97,97,97,97,97,97,97,97,97,97,97]⟩:ByteArray)]:List ByteArray))).bind fun rU=>(some (rU.1,qQ.1,(nS.1==0),rU.2)))else(if mg.1=1 then((dx.f k bN mg.2).bind fun wB=>(some (wz.1,wB.1,(nS.1==0),wB.2)))else(some (wz.1,qQ.1,(nS.1==0),mg.2))))))))=some (r1,r2,r3,r4):=h
 clear h
 obtain⟨afP,O0⟩:∃y_:List ByteArray,y_=(([(⟨#[58,112,97,116,104]⟩:ByteArray),(⟨#[58,115,116,97,116,117,115]⟩:ByteArray),(⟨#[107,105,110,100]⟩:ByteArray),(⟨#[115,105,122,101]⟩:ByteArray),(⟨#[116,101]⟩:ByteArray),(⟨#[97]⟩:ByteArray),(⟨#[98]⟩:ByteArray),(⟨#[107,101,121]⟩:ByteArray)]:List ByteArray)):=⟨_,rfl⟩
 replace H:((bX.f k bN gy afP).bind fun wz=>((bX.f k bN wz.2 (([(⟨#[]⟩:ByteArray),(⟨#[48]⟩:ByteArray),(⟨#[49,50]⟩:ByteArray),(⟨#[116,101,120,116]⟩:ByteArray),(⟨#[116,114,97,105,108,101,114,115]⟩:ByteArray),(⟨#[47,101,99,104,111]⟩:ByteArray),(⟨#[120]⟩:ByteArray),(⟨#[121,49]⟩:ByteArray),(⟨#[97,98,99]⟩:ByteArray)]:List ByteArray))).bind fun qQ=>((au.f k bN qQ.2 8).bind fun nS=>((au.f k bN nS.2 24).bind fun mg=>(if mg.1=0 then((bX.f k bN mg.2 (([(⟨#[]⟩:ByteArray),(⟨#[65]⟩:ByteArray),(⟨#[97,97,97,97,97,97,97,97,97,97,97,97,97,97,97,97,97]⟩:ByteArray)]:List ByteArray))).bind fun rU=>(some (rU.1,qQ.1,(nS.1==0),rU.2)))else(if mg.1=1 then((dx.f k bN mg.2).bind fun wB=>(some (wz.1,wB.1,(nS.1==0),wB.2)))else(some (wz.1,qQ.1,(nS.1==0),mg.2))))))))=some (r1,r2,r3,r4):=by first|(rw[O0];with_reducible exact H)|(have fH:=(Option.bind_some _ _).symm.trans H;rw[O0];with_reducible exact fH)|(have fH:=(Option.bind_some _ _).symm.trans H;with_reducible exact fH)|with_reducible exact H|(rw[O0];exact H)|exact H
 have acz:=ah.mk O0
 clear O0
 obtain⟨⟨KT,a15⟩,A2,H⟩:=ob H
 (try dsimp only at H)
 obtain⟨afQ,O1⟩:∃y_:List ByteArray,y_=(([(⟨#[]⟩:ByteArray),(⟨#[48]⟩:ByteArray),(⟨#[49,50]⟩:ByteArray),(⟨#[116,101,120,116]⟩:ByteArray),(⟨#[116,114,97,105,108,101,114,115]⟩:ByteArray),(⟨#[47,101,99,104,111]⟩:ByteArray),(⟨#[120]⟩:ByteArray),(⟨#[121,49]⟩:ByteArray),(⟨#[97,98,99]⟩:ByteArray)]:List ByteArray)):=⟨_,rfl⟩
 replace H:((bX.f k bN a15 afQ).bind fun qQ=>((au.f k bN qQ.2 8).bind fun nS=>((au.f k bN nS.2 24).bind fun mg=>(if mg.1=0 then((bX.f k bN mg.2 (([(⟨#[]⟩:ByteArray),(⟨#[65]⟩:ByteArray),(⟨#[97,97,97,97,97,97,97,97,97,97,97,97,97,97,97,97,97]⟩:ByteArray)]:List ByteArray))).bind fun rU=>(some (rU.1,qQ.1,(nS.1==0),rU.2)))else(if mg.1=1 then((dx.f k bN mg.2).bind fun wB=>(some (KT,wB.1,(nS.1==0),wB.2)))else(some (KT,qQ.1,(nS.1==0),mg.2)))))))=some (r1,r2,r3,r4):=by first|(rw[O1];with_reducible exact H)|(have fH:=(Option.bind_some _ _).symm.trans H;rw[O1];with_reducible exact fH)|(have fH:=(Option.bind_some _ _).symm.trans H;with_reducible exact fH)|with_reducible exact H|(rw[O1];exact H)|exact H
 have acA:=ah.mk O1
 clear O1
 obtain⟨⟨O3,XB⟩,A3,H⟩:=ob H
 (try dsimp only at H)
 obtain⟨⟨O4,a9f⟩,A4,H⟩:=ob H
 (try dsimp only at H)
 obtain⟨⟨KU,KV⟩,A5,H⟩:=ob H
 (try dsimp only at H)
 have HC6:=ah.mk H
 clear H
 go_enter Tryz.func72,Tryz.ntmps72
 go_upto_if 17 with(first|((with_reducible refine gd 2 rfl ?_);refine bx (N:=2) (cs:=#[.string (⟨#[]⟩:ByteArray),.string (⟨#[]⟩:ByteArray),.bool false]) (t:=89) ?_;intro rV hg w7 hbox hb;replace HB:=ah.mk (ai (gL HB) hb);have kJ:=ah.mk (hbox);have aMf:=ah.mk ((by rw[hg];exact(gG (w:=w) (g:=g) (row:=none) (zh HK)):w.heap.size≤rV));have aMg:=ah.mk ((Nat.le_trans HW0.out (by rw[hg];exact(gG (w:=w) (g:=g) (row:=none) (zh HK)):w.heap.size≤rV):w0.heap.size≤rV));replace HK:=ah.mk (ax.trans (zh HK) (ax.of_below hb g none) (.inl rfl));have KW:=ah.mk ((by rw[hg];exact Nat.ne_of_lt (aM.lt (show aM w0 _ g bN gy from eF HI0)):g≠rV));have qo:=ah.mk ((by rw[hg];exact Nat.ne_of_gt (aM.lt (show aM w0 _ g bN gy from eF HI0)):rV≠g));replace HI0:=ah.mk (aM.below (eF HI0) hb);clear hb hbox hg)|((with_reducible refine gd 5 rfl ?_);refine Kd.R_lit Kd.string _ 9 ?hg (N:=5) ?hd (xs:=([(⟨#[58,112,97,116,104]⟩:ByteArray),(⟨#[58,115,116,97,116,117,115]⟩:ByteArray),(⟨#[107,105,110,100]⟩:ByteArray),(⟨#[115,105,122,101]⟩:ByteArray),(⟨#[116,101]⟩:ByteArray),(⟨#[97]⟩:ByteArray),(⟨#[98]⟩:ByteArray),(⟨#[107,101,121]⟩:ByteArray)]:List ByteArray)) (inner:=[.string (⟨#[58,112,97,116,104]⟩:ByteArray),.string (⟨#[58,115,116,97,116,117,115]⟩:ByteArray),.string (⟨#[107,105,110,100]⟩:ByteArray),.string (⟨#[115,105,122,101]⟩:ByteArray),.string (⟨#[116,101]⟩:ByteArray),.string (⟨#[97]⟩:ByteArray),.string (⟨#[98]⟩:ByteArray),.string (⟨#[107,101,121]⟩:ByteArray)]) (ok:=fun _=>True) (okp:=fun _=>True) ?hr ?hp (fun _ hk=>hk) trivial (Below.refl _ _) (Nat.le_refl _) (by simp) ?_;(case hd=>rfl);(case hg=>rfl);(case hr=>first|(go_simp;done)|(go_simp;rfl));(case hp=>exact(dm.one (show Kd.M Kd.string _ _ _ (⟨#[58,112,97,116,104]⟩:ByteArray) [.string (⟨#[58,112,97,116,104]⟩:ByteArray)]from rfl) (dm.one (show Kd.M Kd.string _ _ _ (⟨#[58,115,116,97,116,117,115]⟩:ByteArray) [.string (⟨#[58,115,116,97,116,117,115]⟩:ByteArray)]from rfl) (dm.one (show Kd.M Kd.string _ _ _ (⟨#[107,105,110,100]⟩:ByteArray) [.string (⟨#[107,105,110,100]⟩:ByteArray)]from rfl) (dm.one (show Kd.M Kd.string _ _ _ (⟨#[115,105,122,101]⟩:ByteArray) [.string (⟨#[115,105,122,101]⟩:ByteArray)]from rfl) (dm.one (show Kd.M Kd.string _ _ _ (⟨#[116,101]⟩:ByteArray) [.string (⟨#[116,101]⟩:ByteArray)]from rfl) (dm.one (show Kd.M Kd.string _ _ _ (⟨#[97]⟩:ByteArray) [.string (⟨#[97]⟩:ByteArray)]from rfl) (dm.one (show Kd.M Kd.string _ _ _ (⟨#[98]⟩:ByteArray) [.string (⟨#[98]⟩:ByteArray)]from rfl) (dm.one (show Kd.M Kd.string _ _ _ (⟨#[107,101,121]⟩:ByteArray) [.string (⟨#[107,101,121]⟩:ByteArray)]from rfl) (dm.none _ _))))))))));intro aQH w8 Nt hb nL fM;clear nL fM;(first|rw[←acz.out]at Nt|(simp only[Int.reduceToNat]at Nt;rw[←acz.out]at Nt));have lN:=ah.mk (Kd.R_lower Nt (gG (w:=w) (g:=g) (row:=none) (zh HK)));replace HI0:=ah.mk (aM.below (eF HI0) hb);replace kJ:=kb kJ hb;replace HK:=ah.mk (ax.trans (zh HK) (ax.of_below hb g none) (.inl rfl));replace HB:=ah.mk (ai (gL HB) hb);clear hb Nt;obtain⟨BR,yV,XC⟩:=Kd.R_slice lN.out;subst XC)|((with_reducible refine gq 80 rfl ?_);refine gl (some 6) Tryz.func80 #[.pointer (some ⟨g,0,none⟩),.slice BR afP.length yV] ?_;(with_reducible refine(bX.calls k g bN gy _ _ afP KT a15 w0 _ ?aN ?aQ ?Ag ?Ah ?Ai A2.out).mono ?_);(case aN=>exact eF HI0);(case aQ=>exact gL HB);(case Ag=>exact zc (Kd.R_reads' lN.out).2.2);(case Ah=>exact(Kd.R_reads' lN.out).2.1);(case Ai=>exact tJ (aM.own_ne HI0.out lN.out (by decide)));rintro e w11 ⟨rfl,hi,hb,hk⟩;refine⟨_,rfl,?_⟩;replace kJ:=ah.mk (ax.blk hk (g':=rV) (o:=.cells #[.string (⟨#[]⟩:ByteArray),.string (⟨#[]⟩:ByteArray),.bool false] 89 (0,0)) (zk kJ) qo.out (by simp));replace lN:=ah.mk (Kd.R_mono (Kd.R_keep (aM.apart (show aM w0 _ g bN gy from eF HI0) (zr lN) (by decide)) hk (fun _ h=>h.2)) (fun _ h=>h.1));replace HK:=ah.mk (ax.trans (zh HK) hk (.inl rfl));replace HB:=ah.mk (hb);replace HI0:=ah.mk (hi);(try clear hb);(try clear hk);(try clear hi))|((with_reducible refine gd 8 rfl ?_);refine Kd.R_lit Kd.string _ 9 ?hg (N:=8) ?hd (xs:=([(⟨#[]⟩:ByteArray),(⟨#[48]⟩:ByteArray),(⟨#[49,50]⟩:ByteArray),(⟨#[116,101,120,116]⟩:ByteArray),(⟨#[116,114,97,105,108,101,114,115]⟩:ByteArray),(⟨#[47,101,99,104,111]⟩:ByteArray),(⟨#[120]⟩:ByteArray),(⟨#[121,49]⟩:ByteArray),(⟨#[97,98,99]⟩:ByteArray)]:List ByteArray)) (inner:=[.string (⟨#[]⟩:ByteArray),.string (⟨#[48]⟩:ByteArray),.string (⟨#[49,50]⟩:ByteArray),.string (⟨#[116,101,120,116]⟩:ByteArray),.string (⟨#[116,114,97,105,108,101,114,115]⟩:ByteArray),.string (⟨#[47,101,99,104,111]⟩:ByteArray),.string (⟨#[120]⟩:ByteArray),.string (⟨#[121,49]⟩:ByteArray),.string (⟨#[97,98,99]⟩:ByteArray)]) (ok:=fun _=>True) (okp:=fun _=>True) ?hr ?hp (fun _ hk=>hk) trivial (Below.refl _ _) (Nat.le_refl _) (by simp) ?_;(case hd=>rfl);(case hg=>rfl);(case hr=>first|(go_simp;done)|(go_simp;rfl));(case hp=>exact(dm.one (show Kd.M Kd.string _ _ _ (⟨#[]⟩:ByteArray) [.string (⟨#[]⟩:ByteArray)]from rfl) (dm.one (show Kd.M Kd.string _ _ _ (⟨#[48]⟩:ByteArray) [.string (⟨#[48]⟩:ByteArray)]from rfl) (dm.one (show Kd.M Kd.string _ _ _ (⟨#[49,50]⟩:ByteArray) [.string (⟨#[49,50]⟩:ByteArray)]from rfl) (dm.one (show Kd.M Kd.string _ _ _ (⟨#[116,101,120,116]⟩:ByteArray) [.string (⟨#[116,101,120,116]⟩:ByteArray)]from rfl) (dm.one (show Kd.M Kd.string _ _ _ (⟨#[116,114,97,105,108,101,114,115]⟩:ByteArray) [.string (⟨#[116,114,97,105,108,101,114,115]⟩:ByteArray)]from rfl) (dm.one (show Kd.M Kd.string _ _ _ (⟨#[47,101,99,104,111]⟩:ByteArray) [.string (⟨#[47,101,99,104,111]⟩:ByteArray)]from rfl) (dm.one (show Kd.M Kd.string _ _ _ (⟨#[120]⟩:ByteArray) [.string (⟨#[120]⟩:ByteArray)]from rfl) (dm.one (show Kd.M Kd.string _ _ _ (⟨#[121,49]⟩:ByteArray) [.string (⟨#[121,49]⟩:ByteArray)]from rfl) (dm.one (show Kd.M Kd.string _ _ _ (⟨#[97,98,99]⟩:ByteArray) [.string (⟨#[97,98,99]⟩:ByteArray)]from rfl) (dm.none _ _)))))))))));intro aQI Xu uQ hb nL fM;clear nL fM;(first|rw[←acA.out]at uQ|(simp only[Int.reduceToNat]at uQ;rw[←acA.out]at uQ));have nT:=ah.mk (Kd.R_lower (Kd.R_new' uQ (Kd.R_lt (zr lN))) (gG (w:=w) (g:=g) (row:=none) (zh HK)));replace lN:=ah.mk (Kd.R_elder' (zr lN) (Kd.R_base uQ) hb);replace HI0:=ah.mk (aM.below (eF HI0) hb);replace kJ:=kb kJ hb;replace HK:=ah.mk (ax.trans (zh HK) (ax.of_below hb g none) (.inl rfl));replace HB:=ah.mk (ai (gL HB) hb);clear hb uQ;obtain⟨afI,afJ,afK⟩:=Kd.R_slice nT.out;subst afK)|((with_reducible refine gq 80 rfl ?_);refine gl (some 9) Tryz.func80 #[.pointer (some ⟨g,0,none⟩),.slice afI afQ.length afJ] ?_;(with_reducible refine(bX.calls k g bN a15 _ _ afQ O3 XB w0 _ ?aN ?aQ ?Ag ?Ah ?Ai A3.out).mono ?_);(case aN=>exact eF HI0);(case aQ=>exact gL HB);(case Ag=>exact zc (Kd.R_reads' nT.out).2.2);(case Ah=>exact(Kd.R_reads' nT.out).2.1);(case Ai=>exact tJ (aM.own_ne HI0.out nT.out (by decide)));rintro e w15 ⟨rfl,hi,hb,hk⟩;refine⟨_,rfl,?_⟩;replace kJ:=ah.mk (ax.blk hk (g':=rV) (o:=.cells #[.string (⟨#[]⟩:ByteArray),.string (⟨#[]⟩:ByteArray),.bool false] 89 (0,0)) (zk kJ) qo.out (by simp));replace lN:=ah.mk (Kd.R_mono (Kd.R_keep (aM.apart (show aM w0 _ g bN a15 from eF HI0) (zr lN) (by decide)) hk (fun _ h=>h.2)) (fun _ h=>h.1));replace nT:=ah.mk (Kd.R_mono (Kd.R_keep (aM.apart (show aM w0 _ g bN a15 from eF HI0) (zr nT) (by decide)) hk (fun _ h=>h.2)) (fun _ h=>h.1));replace HK:=ah.mk (ax.trans (zh HK) hk (.inl rfl));replace HB:=ah.mk (hb);replace HI0:=ah.mk (hi);(try clear hb);(try clear hk);(try clear hi))|((with_reducible refine gd 3 rfl ?_);refine bx (N:=3) (cs:=#[.string (⟨#[]⟩:ByteArray),.string (⟨#[]⟩:ByteArray),.bool false]) (t:=89) ?_;intro AU hg w16 hbox hb;replace lN:=ah.mk (Kd.R_below (zr lN) hb);replace nT:=ah.mk (Kd.R_below (zr nT) hb);replace HB:=ah.mk (ai (gL HB) hb);have nU:=ah.mk (hbox);have aMh:=ah.mk ((by rw[hg];exact(gG (w:=w) (g:=g) (row:=none) (zh HK)):w.heap.size≤AU));have aMi:=ah.mk ((Nat.le_trans HW0.out (by rw[hg];exact(gG (w:=w) (g:=g) (row:=none) (zh HK)):w.heap.size≤AU):w0.heap.size≤AU));replace HK:=ah.mk (ax.trans (zh HK) (ax.of_below hb g none) (.inl rfl));obtain⟨xE,xG⟩:=nb kJ hg;replace kJ:=kb kJ hb;have F3:=ah.mk ((by rw[hg];exact Nat.ne_of_lt (aM.lt (show aM w0 _ g bN XB from eF HI0)):g≠AU));have rW:=ah.mk ((by rw[hg];exact Nat.ne_of_gt (aM.lt (show aM w0 _ g bN XB from eF HI0)):AU≠g));replace HI0:=ah.mk (aM.below (eF HI0) hb);clear hb hbox hg;have aMj:=xG.out;have aMk:=xE.out;have acB:=rW.out;have acC:=F3.out;obtain⟨UN,UO,UQ,UR,UU,UW⟩:=c3 nU)|((with_reducible refine gq 22 rfl ?_);refine gl (some 12) Tryz.func22 #[.pointer (some ⟨g,0,none⟩),.int .i64 8] ?_;(with_reducible refine(au.calls k g bN XB 8 O4 a9f w0 _ ?aN ?aQ A4.out).mono ?_);(case aN=>exact eF HI0);(case aQ=>exact gL HB);rintro e w20 ⟨rfl,hi,hb,hk⟩;refine⟨_,rfl,?_⟩;replace kJ:=ah.mk (ax.blk hk (g':=rV) (o:=.cells #[.string (⟨#[]⟩:ByteArray),.string (⟨#[]⟩:ByteArray),.bool false] 89 (0,0)) (zp kJ) qo.out (by simp));replace lN:=ah.mk (Kd.R_mono (Kd.R_keep (aM.apart (show aM w0 _ g bN XB from eF HI0) (((Kd.R_mono (qj (Kd.R_types lN.out nU.out (by decide))) (fun _ h_=>h_.1)))) (by decide)) hk (fun _ h=>h.2)) (fun _ h=>h.1));replace nT:=ah.mk (Kd.R_mono (Kd.R_keep (aM.apart (show aM w0 _ g bN XB from eF HI0) (((Kd.R_mono (qj (Kd.R_types nT.out nU.out (by decide))) (fun _ h_=>h_.1)))) (by decide)) hk (fun _ h=>h.2)) (fun _ h=>h.1));replace nU:=ah.mk (ax.blk hk (g':=AU) (o:=.cells #[.string KT,.string O3,.bool false] 89 (0,0)) (zp nU) rW.out (by simp));replace HK:=ah.mk (ax.trans (zh HK) hk (.inl rfl));replace HB:=ah.mk (hb);replace HI0:=ah.mk (hi);(try clear hb);(try clear hk);(try clear hi);obtain⟨Kq,Kr,a7A,UD,Kt,a7B⟩:=c3 nU)|((with_reducible refine gq 22 rfl ?_);refine gl (some 16) Tryz.func22 #[.pointer (some ⟨g,0,none⟩),.int .i64 24] ?_;(with_reducible refine(au.calls k g bN a9f 24 KU KV w0 _ ?aN ?aQ A5.out).mono ?_);(case aN=>exact eF HI0);(case aQ=>exact gL HB);rintro e w22 ⟨rfl,hi,hb,hk⟩;refine⟨_,rfl,?_⟩;replace kJ:=ah.mk (ax.blk hk (g':=rV) (o:=.cells #[.string (⟨#[]⟩:ByteArray),.string (⟨#[]⟩:ByteArray),.bool false] 89 (0,0)) (zp kJ) qo.out (by simp));replace lN:=ah.mk (Kd.R_mono (Kd.R_keep (aM.apart (show aM w0 _ g bN a9f from eF HI0) (((Kd.R_mono (qj (Kd.R_types lN.out nU.out (by decide))) (fun _ h_=>h_.1)))) (by decide)) hk (fun _ h=>h.2)) (fun _ h=>h.1));replace nT:=ah.mk (Kd.R_mono (Kd.R_keep (aM.apart (show aM w0 _ g bN a9f from eF HI0) (((Kd.R_mono (qj (Kd.R_types nT.out nU.out (by decide))) (fun _ h_=>h_.1)))) (by decide)) hk (fun _ h=>h.2)) (fun _ h=>h.1));replace nU:=ah.mk (ax.blk hk (g':=AU) (o:=.cells #[.string KT,.string O3,.bool (O4==0)] 89 (0,0)) (zp nU) rW.out (by simp));replace HK:=ah.mk (ax.trans (zh HK) hk (.inl rfl));replace HB:=ah.mk (hb);replace HI0:=ah.mk (hi);(try clear hb);(try clear hk);(try clear hi)))
 (try simp only[Act.put,s1,s2,s3])
 have H:=HC6.out
 clear HC6
 replace H:=sp H
 rcases H with⟨c23,H⟩|⟨c23,H⟩
 ·skip
  have c23b0:(KU==0)=true:=beq_iff_eq.mpr c23
  have c23b1:(KU != 0)=false:=bne_eq_false_iff_eq.mpr c23
  clear c23
  (first|rw[c23b0]|rw[c23b1]|rw[c23b2]|(simp only[gI,iB];rw[c23b0])|skip)
  obtain⟨afR,O5⟩:∃y_:List ByteArray,y_=(([(⟨#[]⟩:ByteArray),(⟨#[65]⟩:ByteArray),(⟨#[97,97,97,97,97,97,97,97,97,97,97,97,97,97,97,97,97]⟩:ByteArray)]:List ByteArray)):=⟨_,rfl⟩
  replace H:((bX.f k bN KV afR).bind fun rU=>(some (rU.1,O3,(O4==0),rU.2)))=some (r1,r2,r3,r4):=by first|(rw[O5];with_reducible exact H)|(have fH:=(Option.bind_some _ _).symm.trans H;rw[O5];with_reducible exact fH)|(have fH:=(Option.bind_some _ _).symm.trans H;with_reducible exact fH)|with_reducible exact H|(rw[O5];exact H)|exact H
  have acD:=ah.mk O5
  clear O5
  obtain⟨⟨amI,aD9⟩,A24,H⟩:=ob H
  (try dsimp only at H)
  simp only[Option.some.injEq,Prod.mk.injEq]at H
  obtain⟨rfl,rfl,rfl,rfl⟩:=H
  go_wp2_with (first|((with_reducible refine gd 20 rfl ?_);refine Kd.R_lit Kd.string _ 9 ?hg (N:=20) ?hd (xs:=([(⟨#[]⟩:ByteArray),(⟨#[65]⟩:ByteArray),(⟨#[97,97,97,97,97,97,97,97,97,97,97,97,97,97,97,97,97]⟩:ByteArray)]:List ByteArray)) (inner:=[.string (⟨#[]⟩:ByteArray),.string (⟨#[65]⟩:ByteArray),.string (⟨#[97,97,97,97,97,97,97,97,97,97,97,97,97,97,97,97,97]⟩:ByteArray)]) (ok:=fun _=>True) (okp:=fun _=>True) ?hr ?hp (fun _ hk=>hk) trivial (Below.refl _ _) (Nat.le_refl _) (by simp) ?_;(case hd=>rfl);(case hg=>rfl);(case hr=>first|(go_simp;done)|(go_simp;rfl));(case hp=>exact(dm.one (show Kd.M Kd.string _ _ _ (⟨#[]⟩:ByteArray) [.string (⟨#[]⟩:ByteArray)]from rfl) (dm.one (show Kd.M Kd.string _ _ _ (⟨#[65]⟩:ByteArray) [.string (⟨#[65]⟩:ByteArray)]from rfl) (dm.one (show Kd.M Kd.string _ _ _ (⟨#[97,97,97,97,97,97,97,97,97,97,97,97,97,97,97,97,97]⟩:ByteArray) [.string (⟨#[97,97,97,97,97,97,97,97,97,97,97,97,97,97,97,97,97]⟩:ByteArray)]from rfl) (dm.none _ _)))));intro aQJ w25 Rl hb nL fM;clear nL fM;(first|rw[←acD.out]at Rl|(simp only[Int.reduceToNat]at Rl;rw[←acD.out]at Rl));have Iw:=ah.mk (Kd.R_lower (Kd.R_new' (Kd.R_new' Rl (Kd.R_lt (zr lN))) (Kd.R_lt (zr nT))) (gG (w:=w) (g:=g) (row:=none) (zh HK)));replace lN:=ah.mk (Kd.R_elder' (zr lN) (Kd.R_base Rl) hb);replace nT:=ah.mk (Kd.R_elder' (zr nT) (Kd.R_base Rl) hb);replace HI0:=ah.mk (aM.below (eF HI0) hb);replace kJ:=kb kJ hb;replace nU:=kb nU hb;replace HK:=ah.mk (ax.trans (zh HK) (ax.of_below hb g none) (.inl rfl));replace HB:=ah.mk (ai (gL HB) hb);clear hb Rl;obtain⟨aDa,aDb,aDc⟩:=Kd.R_slice Iw.out;subst aDc)|((with_reducible refine gq 80 rfl ?_);refine gl (some 21) Tryz.func80 #[.pointer (some ⟨g,0,none⟩),.slice aDa afR.length aDb] ?_;(with_reducible refine(bX.calls k g bN KV _ _ afR amI aD9 w0 _ ?aN ?aQ ?Ag ?Ah ?Ai A24.out).mono ?_);(case aN=>exact eF HI0);(case aQ=>exact gL HB);(case Ag=>exact zc (Kd.R_reads' Iw.out).2.2);(case Ah=>exact(Kd.R_reads' Iw.out).2.1);(case Ai=>exact tJ (aM.own_ne HI0.out Iw.out (by decide)));rintro e Yu ⟨rfl,hi,hb,hk⟩;refine⟨_,rfl,?_⟩;replace kJ:=ah.mk (ax.blk hk (g':=rV) (o:=.cells #[.string (⟨#[]⟩:ByteArray),.string (⟨#[]⟩:ByteArray),.bool false] 89 (0,0)) (zk kJ) qo.out (by simp));replace lN:=ah.mk (Kd.R_mono (Kd.R_keep (aM.apart (show aM w0 _ g bN KV from eF HI0) (zr lN) (by decide)) hk (fun _ h=>h.2)) (fun _ h=>h.1));replace nT:=ah.mk (Kd.R_mono (Kd.R_keep (aM.apart (show aM w0 _ g bN KV from eF HI0) (zr nT) (by decide)) hk (fun _ h=>h.2)) (fun _ h=>h.1));replace nU:=ah.mk (ax.blk hk (g':=AU) (o:=.cells #[.string KT,.string O3,.bool (O4==0)] 89 (0,0)) (zk nU) rW.out (by simp));replace Iw:=ah.mk (Kd.R_mono (Kd.R_keep (aM.apart (show aM w0 _ g bN KV from eF HI0) (zr Iw) (by decide)) hk (fun _ h=>h.2)) (fun _ h=>h.1));replace HK:=ah.mk (ax.trans (zh HK) hk (.inl rfl));replace HB:=ah.mk (hb);replace HI0:=ah.mk (hi);(try clear hb);(try clear hk);(try clear hi);have amJ:=xG.out;have amK:=xE.out;have acE:=rW.out;have acF:=F3.out;obtain⟨Eo,Ep,Er,Es,Et,Eu⟩:=c3 nU;have acG:=qo.out;have acH:=KW.out;obtain⟨zG,zH,zI,zJ,zK,zL⟩:=c3 kJ))
  refine bodyPost_ret (results_cell_row rfl _ _ rV 89 #[.string amI,.string O3,.bool (O4==0)] (0,0) _ rfl (zp kJ) Tryz.underlying89 rfl (by kernel_rfl)) rfl ?_
  exact⟨ze,eF HI0,gL HB,zh HK⟩
 ·skip
  have c23b0:(KU==0)=false:=beq_eq_false_iff_ne.mpr c23
  have c23b1:(KU != 0)=true:=bne_iff_ne.mpr c23
  (first|rw[c23b0]|rw[c23b1]|rw[c23b2]|(simp only[gI,iB];rw[c23b0])|skip)
  replace H:=sp H
  rcases H with⟨c34,H⟩|⟨c34,H⟩
  ·skip
   have c34b0:(KU==1)=true:=beq_iff_eq.mpr c34
   have c34b1:(KU != 1)=false:=bne_eq_false_iff_eq.mpr c34
   clear c34
   obtain⟨⟨amL,aDd⟩,A35,H⟩:=ob H
   (try dsimp only at H)
   simp only[Option.some.injEq,Prod.mk.injEq]at H
   obtain⟨rfl,rfl,rfl,rfl⟩:=H
   go_wp2_with (first|((with_reducible refine gq 58 rfl ?_);refine gl (some 26) Tryz.func58 #[.pointer (some ⟨g,0,none⟩)] ?_;(with_reducible refine(dx.calls k g bN KV amL aDd w0 _ ?aN ?aQ A35.out).mono ?_);(case aN=>exact eF HI0);(case aQ=>exact gL HB);rintro e w36 ⟨rfl,hi,hb,hk⟩;refine⟨_,rfl,?_⟩;replace kJ:=ah.mk (ax.blk hk (g':=rV) (o:=.cells #[.string (⟨#[]⟩:ByteArray),.string (⟨#[]⟩:ByteArray),.bool false] 89 (0,0)) (zk kJ) qo.out (by simp));replace lN:=ah.mk (Kd.R_mono (Kd.R_keep (aM.apart (show aM w0 _ g bN KV from eF HI0) (zr lN) (by decide)) hk (fun _ h=>h.2)) (fun _ h=>h.1));replace nT:=ah.mk (Kd.R_mono (Kd.R_keep (aM.apart (show aM w0 _ g bN KV from eF HI0) (zr nT) (by decide)) hk (fun _ h=>h.2)) (fun _ h=>h.1));replace nU:=ah.mk (ax.blk hk (g':=AU) (o:=.cells #[.string KT,.string O3,.bool (O4==0)] 89 (0,0)) (zk nU) rW.out (by simp));replace HK:=ah.mk (ax.trans (zh HK) hk (.inl rfl));replace HB:=ah.mk (hb);replace HI0:=ah.mk (hi);(try clear hb);(try clear hk);(try clear hi);have Vp:=xG.out;have Vq:=xE.out;have amM:=rW.out;have amN:=F3.out;obtain⟨EB,EC,EF,EG,EH,EI⟩:=c3 nU;have amO:=qo.out;have amP:=KW.out;obtain⟨EJ,EK,EL,EM,EN,EO⟩:=c3 kJ))
   refine bodyPost_ret (results_cell_row rfl _ _ rV 89 #[.string KT,.string amL,.bool (O4==0)] (0,0) _ rfl (zp kJ) Tryz.underlying89 rfl (by kernel_rfl)) rfl ?_
   exact⟨ze,eF HI0,gL HB,zh HK⟩
  ·skip
   have c34b0:(KU==1)=false:=beq_eq_false_iff_ne.mpr c34
   have c34b1:(KU != 1)=true:=bne_iff_ne.mpr c34
   simp only[Option.some.injEq,Prod.mk.injEq]at H
   obtain⟨rfl,rfl,rfl,rfl⟩:=H
   have acI:=xG.out
   have acJ:=xE.out
   have acK:=rW.out
   have acL:=F3.out
   obtain⟨Vr,Vs,av4,Vt,Vu,av5⟩:=c3 nU
   have amQ:=qo.out
   have amR:=KW.out
   obtain⟨a7Z,a81,a88,a8a,a8b,a8c⟩:=c3 kJ
   go_wp2
   refine bodyPost_ret (results_cell_row rfl _ _ rV 89 #[.string KT,.string O3,.bool (O4==0)] (0,0) _ rfl (zp kJ) Tryz.underlying89 rfl (by kernel_rfl)) rfl ?_
   exact⟨ze,eF HI0,gL HB,zh HK⟩
end Go.Proofs.YtokblgdgpnakpaaGreat.PFnEndLess
