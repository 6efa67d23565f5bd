/- FnEndLess holds: part 2 of a proof that the given program meets it (printed texts and walks of our own, made short by a program). No condition. -/
import Derived.Test.YtokblgdgpnakpaaGreatQ01
set_option linter.unusedVariables false
set_option linter.unusedSimpArgs false
set_option maxHeartbeats 8000000
set_option maxRecDepth 100000
namespace Go.Proofs.YtokblgdgpnakpaaGreat.PFnEndLess
open Go.RowKit Go.Proofs.YtokblgdgpnakpaaGreatW.PrintWords Go.Proofs.YtokblgdgpnakpaaGreatW.PrintLast Go.Proofs.YtokblgdgpnakpaaGreatW.PrintMore Go.Proofs.YtokblgdgpnakpaaGreat.Lm
attribute [local go_sem] bF bD cZ d9 aY aX bH bI
def bO.l0:Nat→Int→List (bg)→Int→Option (Bool)
 |0,_,_,_=>none
 |k+1,x3,uy,JS=>if x3<(uy.length:Int)then(if 0≤x3 then((eF.f k ((aT uy x3).f0) ((aT uy x3).f1) ((aT uy x3).f2)).bind fun t131=>(if t131=true then(if(aT uy x3).f2=true then(some false)else(bO.l0 k (wrap64 (x3+1)) uy JS))else(some false)))else(none))else((cK.f JS 0 64).bind fun ae3=>(if ae3=true then((dx.f k uy).bind fun ae4=>(some (decide (ae4≤JS))))else(some false)))
def bO.f(k:Nat)(aH:List (bg))(aA:Int):Option (Bool):=bO.l0 k 0 aH aA
theorem bO.mono_l:∀k,(∀y0 y1 y2,gV (bO.l0 k y0 y1 y2) (bO.l0 (k+1) y0 y1 y2))
 |0=>fun _ _ _ r h=>by simp[bO.l0]at h
 |k+1=>by
  have ng:=bO.mono_l k
  ·intro y0 y1 y2
   unfold bO.l0
   have m0:=@eF.mono
   have m1:=@dx.mono
   exact zm
theorem bO.mono:∀a0 a1 k,gV (bO.f k a0 a1) (bO.f (k+1) a0 a1):=by
 intro a0 a1 k
 have ng:=bO.mono_l k
 unfold bO.f
 have m0:=@eF.mono
 have m1:=@dx.mono
 exact zm
def bO.T6:Bool×List (List Nat×List Nat):=(true,[([],[]),([0],[0]),([1],[1]),([2,2],[2]),([3],[3]),([4,3],[3,4]),([5,3,3],[3,5]),([3],[3]),([7,3],[3,7]),([6,8,3],[3,6,8]),([3,9],[3,9]),([10,6,0,1,2,3,4,5,6,7,8,9,10],[10])])
def bO.B6:List Nat:=[0,1,3,7,15,31,63,15,143,511,1023,2047]
theorem bO.tab6:jm .any (opsOf Tryz.f30 6)=bO.T6:=by kernel_rfl
theorem bO.bits6:fQ bO.T6.2 bO.B6=true:=by kernel_rfl
theorem bO.calls(k:Nat)(iW:Option Addr)(iX:Nat)(aH:List (bg))(aA:Int)(r:Bool)(w:World)(kM:Kd.C iF w iW aH.length aH)(kN:aH.length≤iX)(h:bO.f k aH aA=some r):
 Calls Tryz.prog 30 #[.agg #[.slice iW aH.length iX,.int .i64 aA]] w fun e w'=>e= .returned (.bool r)∧Below w.heap.size w w':=by
 have zB:=Tryz.underlying25
 have rZ:=Tryz.underlying89
 have lF:=ah.mk kM
 have oZ:=ah.mk kN
 clear kM kN
 have HB:=ah.mk (Below.refl w.heap.size w)
 have H:(bO.l0 k 0 aH aA)=some r:=h
 clear h
 have H':=ah.mk H
 clear H
 go_enter Tryz.func30,Tryz.ntmps30
 go_wp2_with (first|((with_reducible refine gd 1 rfl ?_);refine bx (N:=1) (cs:=#[.slice iW aH.length iX,.int .i64 aA]) (t:=25) ?_;intro aky hg w2 hbox hb;have kQ:=ah.mk (hbox);have akz:=gw HB hg;have aKD:=akz;replace HB:=ah.mk (ai (zb HB) hb);clear hb hbox hg))
 go_loopg [3] k (fun kq v3 w'=>∃(cO:Int),v3= .int .i64 cO∧ah (bO.l0 kq cO aH aA=some r)∧ah (kq≤k)∧ah (w'.heap[aky]?=some (.cells #[(.slice iW aH.length iX),.int .i64 aA] 25 (0,0)))∧ah (Below w.heap.size w w'))
 case atStart=>exact⟨(0),zs,H',⟨Nat.le_refl _⟩,⟨by exact zk kQ⟩,⟨zb HB⟩⟩
 case round=>
  clear H'
  try clear p2
  obtain⟨cO,rfl,HA,jc,kQ,HB⟩:=hrel
  cases gk with
  |zero=>exact absurd HA.out (by simp[bO.l0])
  |succ k1=>
   have H:=HA.out
   clear HA
   simp only[bO.l0]at H
   replace H:=sp H
   rcases H with⟨c3,H⟩|⟨c3,H⟩
   ·skip
    have c3b0:=decide_eq_true c3
    clear c3
    by_cases c4:0≤cO
    ·rw[if_pos c4]at H
     have c4b0:=decide_eq_true c4
     clear c4
     obtain⟨t131,A5,H⟩:=ob H
     (try dsimp only at H)
     by_cases c6:t131=true
     ·subst c6
      rw[if_pos rfl]at H
      have HC7:=ah.mk H
      clear H
      obtain⟨Bq,Br,Bt,Bu⟩:=c2 kQ
      have QG:0≤(cO:Int):=of_decide_eq_true za
      have QH:cO<(aH.length:Int):=of_decide_eq_true za
      obtain⟨abd,ae5,zC,zD,zF⟩:=eP lF.out cO QG QH
      cases ae5
      replace zC:=pM zC HB
      replace zD:=pM zD HB
      replace zF:=pM zF HB
      replace QG:=eq_true QG
      replace QH:=eq_true QH
      go_upto_if 25 with(first|((with_reducible refine gq 56 rfl ?_);refine gl (some 16) Tryz.func56 #[.agg #[.string ((aT aH cO).f0),.string ((aT aH cO).f1),.bool ((aT aH cO).f2)]] ?_;(with_reducible refine(eF.calls k1 ((aT aH cO).f0) ((aT aH cO).f1) ((aT aH cO).f2) true _ A5.out).mono ?_);rintro e w9 ⟨rfl,hb⟩;refine⟨_,rfl,?_⟩;replace kQ:=kb kQ hb;replace HB:=ah.mk (ai (zb HB) hb);(try clear hb);obtain⟨Dy,Dz,DC,DF⟩:=c2 kQ;have ae6:0≤(cO:Int):=of_decide_eq_true za;have a7K:cO<(aH.length:Int):=of_decide_eq_true za;obtain⟨akA,aBi,UR,UU,UW⟩:=eP lF.out cO ae6 a7K;obtain rfl:abd=akA:=(by injection aBi);replace UR:=pM UR HB;replace UU:=pM UU HB;replace UW:=pM UW HB;replace ae6:=eq_true ae6;replace a7K:=eq_true a7K))
      (try simp only[Act.put,s1,s2,s3])
      have H:=HC7.out
      clear HC7
      obtain⟨akB,a0y⟩:∃b_:Bool,b_=((aT aH cO).f2):=⟨_,rfl⟩
      replace H:(if akB=true then(some false)else(bO.l0 k1 (wrap64 (cO+1)) aH aA))=some r:=by rw[←a0y]at H;exact H
      have abe:=ah.mk a0y
      clear a0y
      (try rw[←abe.out])
      (try rw[←abe.out]at kQ)
      by_cases c12:akB=true
      ·subst c12
       rw[if_pos rfl]at H
       obtain rfl:=Option.some.inj H
       go_wp2
       go_ret
       exact⟨ze,zb HB⟩
      ·replace c12:=Bool.eq_false_iff.mpr c12
       subst c12
       rw[if_neg (show ¬(false=true) by decide)]at H
       have H':=ah.mk H
       clear H
       go_wp2
       go_roundg k1
       case measure=>have:=jc.out;omega
       case rel=>exact⟨(wrap64 (cO+1)),zs,H',⟨by have:=jc.out;omega⟩,⟨by exact zk kQ⟩,⟨zb HB⟩⟩
     ·replace c6:=Bool.eq_false_iff.mpr c6
      subst c6
      rw[if_neg (show ¬(false=true) by decide)]at H
      obtain rfl:=Option.some.inj H
      obtain⟨JU,JV,JW,JX⟩:=c2 kQ
      have QG:0≤(cO:Int):=of_decide_eq_true za
      have QH:cO<(aH.length:Int):=of_decide_eq_true za
      obtain⟨abd,ae5,zC,zD,zF⟩:=eP lF.out cO QG QH
      cases ae5
      replace zC:=pM zC HB
      replace zD:=pM zD HB
      replace zF:=pM zF HB
      replace QG:=eq_true QG
      replace QH:=eq_true QH
      go_wp2_with (first|((with_reducible refine gq 56 rfl ?_);refine gl (some 16) Tryz.func56 #[.agg #[.string ((aT aH cO).f0),.string ((aT aH cO).f1),.bool ((aT aH cO).f2)]] ?_;(with_reducible refine(eF.calls k1 ((aT aH cO).f0) ((aT aH cO).f1) ((aT aH cO).f2) false _ A5.out).mono ?_);rintro e D5 ⟨rfl,hb⟩;refine⟨_,rfl,?_⟩;replace kQ:=kb kQ hb;replace HB:=ah.mk (ai (zb HB) hb);(try clear hb)))
      go_ret
      exact⟨ze,zb HB⟩
    ·rw[if_neg c4]at H
     exact absurd H (by simp)
   ·skip
    have c3b0:=decide_eq_false c3
    clear c3
    obtain⟨ae3,Yn,H⟩:=ob H
    (try dsimp only at H)
    by_cases c16:ae3=true
    ·subst c16
     rw[if_pos rfl]at H
     obtain⟨ae4,Xn,H⟩:=ob H
     (try dsimp only at H)
     obtain rfl:=Option.some.inj H
     obtain⟨TG,TH,TI,TJ⟩:=c2 kQ
     try go_wp2
     replace kQ:=ah.mk (dn kQ.out)
     replace HB:=ah.mk (dG HB.out)
     refine st 12 (b2 kQ) (fun hHeld=>?_);refine bR bO.tab6 bO.bits6 (fun HT_ HW_=>?_)
     generalize wr.drew=w19 at kQ HB hHeld ⊢
     refine pu 0 (some 26) (bm 12 1) rfl rfl ?_
     refine tk 1 (some 27) (bm 12 3) rfl rfl hHeld ?_
     refine fV (i:=2) (N:=some 28) (bm 12 7) rfl rfl (bL HT_.out (by kernel_rfl)) (by decide) (fun K hK=>?_)
     refine gs Tryz.func44 #[.int .i64 aA,.int .i64 0,.int .i64 64] ?_
     with_reducible refine(cK.calls aA 0 64 true _ Yn.out).mono ?_
     rintro e w' ⟨rfl,⟨nd,rfl⟩⟩
     refine⟨_,rfl,?_⟩
     refine hK.out _ _ (b2 kQ) (fun hHeld=>?_)
     clear hK K
     refine nm ?_
     refine pu 3 (some 29) (bm 12 15) rfl rfl ?_
     refine pu 4 (some 30) (bm 12 31) rfl rfl ?_
     refine pu 7 (some 33) (bm 12 159) rfl rfl ?_
     refine tk 5 (some 31) (bm 12 191) rfl rfl hHeld ?_
     refine tk 8 (some 34) (bm 12 447) rfl rfl hHeld ?_
     refine fV (i:=6) (N:=some 32) (bm 12 511) rfl rfl (bL HT_.out (by kernel_rfl)) (by decide) (fun K hK=>?_)
     refine gs Tryz.func57 #[.slice iW aH.length iX] ?_
     with_reducible refine(dx.calls k1 _ _ aH ae4 _ ?aN ?aQ Xn.out).mono ?_
     (case aN=>exact(Kd.C_below lF.out (zb HB)))
     (case aQ=>exact oZ.out)
     rintro e w20 ⟨rfl,hb⟩
     refine⟨_,rfl,?_⟩
     replace kQ:=kb kQ hb
     replace HB:=ah.mk (ai (zb HB) hb)
     (try clear hb)
     refine hK.out _ _ (b2 kQ) (fun hHeld=>?_)
     clear hK K
     refine nm ?_
     refine pu 9 (some 35) (bm 12 1023) rfl rfl ?_
     refine pu 10 (some 36) (bm 12 2047) rfl rfl ?_
     refine pu 11 (some 2) (bm 12 4095) rfl rfl ?_
     refine fw (dM HT_.out (by kernel_rfl)) ?_
     try go_wp2
     go_ret
     exact⟨ze,zb HB⟩
    ·replace c16:=Bool.eq_false_iff.mpr c16
     subst c16
     rw[if_neg (show ¬(false=true) by decide)]at H
     obtain rfl:=Option.some.inj H
     obtain⟨JG,JH,Uv,JI⟩:=c2 kQ
     try go_wp2
     replace kQ:=ah.mk (dn kQ.out)
     replace HB:=ah.mk (dG HB.out)
     refine st 12 (b2 kQ) (fun hHeld=>?_);refine bR bO.tab6 bO.bits6 (fun HT_ HW_=>?_)
     generalize wr.drew=w22 at kQ HB hHeld ⊢
     refine pu 0 (some 26) (bm 12 1) rfl rfl ?_
     refine tk 1 (some 27) (bm 12 3) rfl rfl hHeld ?_
     refine fV (i:=2) (N:=some 28) (bm 12 7) rfl rfl (bL HT_.out (by kernel_rfl)) (by decide) (fun K hK=>?_)
     refine gs Tryz.func44 #[.int .i64 aA,.int .i64 0,.int .i64 64] ?_
     with_reducible refine(cK.calls aA 0 64 false _ Yn.out).mono ?_
     rintro e w' ⟨rfl,⟨nd,rfl⟩⟩
     refine⟨_,rfl,?_⟩
     refine hK.out _ _ (b2 kQ) (fun hHeld=>?_)
     clear hK K
     refine nm ?_
     refine pu 3 (some 29) (bm 12 15) rfl rfl ?_
     refine pv 4 (some 30) (bm 12 31) rfl rfl ?_
     refine pv 5 (some 31) (bm 12 63) rfl rfl ?_
     refine pv 6 (some 32) (bm 12 127) rfl rfl ?_
     refine pv 7 (some 33) (bm 12 255) rfl rfl ?_
     refine pv 8 (some 34) (bm 12 511) rfl rfl ?_
     refine pv 9 (some 35) (bm 12 1023) rfl rfl ?_
     refine pu 10 (some 36) (bm 12 2047) rfl rfl ?_
     refine pu 11 (some 2) (bm 12 4095) rfl rfl ?_
     refine fw (dM HT_.out (by kernel_rfl)) ?_
     try go_wp2
     go_ret
     exact⟨ze,zb HB⟩
def aK(w0 W:World)(g:Nat)(f0:List Int)(f1:Int):Prop:=∃A0 c0,W.heap[g]?=some (.cells #[.slice A0 f0.length c0,.int .i64 f1] 75 (0,0))∧w0.heap.size≤g∧Kd.C (Kd.int .u8) w0 A0 f0.length f0
theorem aK.grown{w0 W:World}{g:Nat}{f0:List Int}{f1:Int}{W1:World}{row:Option Nat}(h:aK w0 W g f0 f1)(hw:W.grownBy W1 row)(hne:some g≠row):aK w0 W1 g f0 f1:=by
 obtain⟨A0,c0,hb,hg,hr0⟩:=h
 exact⟨A0,c0,jI hb hw hne,hg,hr0⟩
theorem aK.fresh{w0 W:World}{g:Nat}{f0:List Int}{f1:Int}(h:aK w0 W g f0 f1):∀k,W.heap.size≤k→k≠g:=by
 obtain⟨A0,c0,hb,hg,hr0⟩:=h
 exact Kd.freshB hb
theorem aK.kept{w0 W:World}{g:Nat}{f0:List Int}{f1:Int}{W1:World}{S:Nat→Prop}(h:aK w0 W g f0 f1)(hk:Kept W W1 S)(hne:¬S g):aK w0 W1 g f0 f1:=by
 obtain⟨A0,c0,hb,hg,hr0⟩:=h
 exact⟨A0,c0,mR hb hk hne,hg,hr0⟩
theorem aK.below{w0 W:World}{g:Nat}{f0:List Int}{f1:Int}{W1:World}(h:aK w0 W g f0 f1)(hw:Below W.heap.size W W1):aK w0 W1 g f0 f1:=h.grown (vB hw none) (by simp)
theorem aK.alloc{w0 W:World}{g:Nat}{f0:List Int}{f1:Int}(h:aK w0 W g f0 f1)(o:Obj):aK w0 (W.alloc o) g f0 f1:=h.below (dV (Below.refl _ _) o)
theorem aK.drewN{w0 W:World}{g:Nat}{f0:List Int}{f1:Int}(h:aK w0 W g f0 f1)(m:Nat):aK w0 (W.drewN m) g f0 f1:=h
theorem aK.drew{w0 W:World}{g:Nat}{f0:List Int}{f1:Int}(h:aK w0 W g f0 f1):aK w0 W.drew g f0 f1:=h
theorem aK.at_{w0 W:World}{g:Nat}{f0:List Int}{f1:Int}{w':World}{m:Nat}(hq:W.drewN m=w')(h:aK w0 W g f0 f1):aK w0 w' g f0 f1:=by subst hq;exact aK.drewN h m
theorem aK.apart{w0 W:World}{g:Nat}{f0:List Int}{f1:Int}{α:Type}{d:Kd α}{e:Nat}{base:Nat}{ok:Nat→Prop}{v:Value}{xs:List α}(h:aK w0 W g f0 f1)(ho:d.R e W base ok v xs)(ht:∀q,q∈e::d.E→q≠75):d.R e W base (fun k=>ok k∧k≠g) v xs:=by
 obtain⟨A0,c0,hb,hg,hr0⟩:=h
 exact Kd.R_types ho hb ht
theorem aK.own_ne{w0 W:World}{g:Nat}{f0:List Int}{f1:Int}{α:Type}{d:Kd α}{e:Nat}{base:Nat}{ok:Nat→Prop}{v:Value}{xs:List α}(h:aK w0 W g f0 f1)(ho:d.R e W base ok v xs)(ht:e≠75):some g≠v.ownBlock:=by
 obtain⟨A0,c0,hb,hg,hr0⟩:=h
 exact Kd.R_ne ho hb ht
theorem aK.lt{w0 W:World}{g:Nat}{f0:List Int}{f1:Int}(h:aK w0 W g f0 f1):g<W.heap.size:=by
 obtain⟨A0,c0,hb,hg,hr0⟩:=h
 exact fZ hb
theorem aK.ge{w0 W:World}{g:Nat}{f0:List Int}{f1:Int}(h:aK w0 W g f0 f1):w0.heap.size≤g:=by
 obtain⟨A0,c0,hb,hg,hr0⟩:=h
 exact hg
theorem aK.far{w0 W:World}{g:Nat}{f0:List Int}{f1:Int}{p:Addr}(h:aK w0 W g f0 f1)(hne:g≠p.block)(u:Value):aK w0 (W.setCell p u) g f0 f1:=by
 obtain⟨A0,c0,hb,hg,hr0⟩:=h
 exact⟨A0,c0,Tn hb hne u,hg,hr0⟩
theorem wK{W:World}{g:Nat}{A0:Option Addr}{c0:Nat}{f0:List Int}{f1:Int}(h:W.heap[g]?=some (.cells #[.slice A0 f0.length c0,.int .i64 f1] 75 (0,0))):W.cell? ⟨g,0,none⟩=some (.slice A0 f0.length c0):=(au h 0).trans rfl
theorem wL{W:World}{g:Nat}{A0:Option Addr}{c0:Nat}{f0:List Int}{f1:Int}(h:W.heap[g]?=some (.cells #[.slice A0 f0.length c0,.int .i64 f1] 75 (0,0))):W.cell? ⟨g,1,none⟩=some (.int .i64 f1):=(au h 1).trans rfl
theorem aK.set_1{w0 W:World}{g:Nat}{f0:List Int}{f1:Int}(h:aK w0 W g f0 f1)(x:Int):aK w0 (W.setCell ⟨g,1,none⟩ (.int .i64 x)) g f0 x:=by
 obtain⟨A0,c0,hb,hg,hr0⟩:=h
 exact⟨A0,c0,by simpa using Tm hb 1 (.int .i64 x),hg,hr0⟩
theorem aK.new(w0 W:World)(A0:Option Addr)(c0:Nat)(f0:List Int)(f1:Int)(hB:Below w0.heap.size w0 W)(hr0:Kd.C (Kd.int .u8) w0 A0 f0.length f0):aK w0 (W.alloc (.cells #[.slice A0 f0.length c0,.int .i64 f1] 75)) W.heap.size f0 f1:=⟨A0,c0,by simpa using heap_alloc_new W _,hB.size,hr0⟩
theorem eD{w0 W0 W:World}{g:Nat}{f0 e0:List Int}{f1 e1:Int}(h0:ah (aK w0 W0 g e0 e1))(h:aK w0 W g f0 f1:=by repeat(with_reducible first|exact ah.out (by assumption)|apply aK.alloc|apply aK.drewN|apply aK.drew|apply aK.set_1|refine aK.far ?_ (ah.out (by assumption)) _)):aK w0 W g f0 f1:=h
theorem gL{n:Nat}{w W0 W:World}(h0:ah (Below n w W0))(h:Below n w W:=by repeat(first|(with_reducible first|exact HB.out|apply dV|apply eX|apply dG|refine o8 ?_ (ah.out (by assumption))|refine o8 ?_ (aK.ge (ah.out (by assumption))))|exact HB.out)):Below n w W:=h
def pq.f(l0:List Int):Option (List Int×Int):=if(l0.length:Int)>2000 then(if 2000≤(l0.length:Int)then(some (l0.take 2000,0))else(none))else(some (l0,0))
theorem pq.calls(A0:Option Addr)(c0:Nat)(l0:List Int)(r1:List Int)(r2:Int)(w0 w:World)(hB:Below w0.heap.size w0 w)(hr0:Kd.C (Kd.int .u8) w0 A0 l0.length l0)(hc0:l0.length≤c0)(h:pq.f l0=some (r1,r2)):
 Calls Tryz.prog 20 #[.slice A0 l0.length c0] w fun e w'=>∃g_:Nat,e= .returned (.pointer (some ⟨g_,0,none⟩))∧aK w0 w' g_ r1 r2∧Below w0.heap.size w0 w'∧Below w.heap.size w w':=by
 have aPl:=Tryz.underlying75
 have Gd:=ah.mk hr0
 have HC0:=ah.mk hc0
 clear hr0 hc0
 have HBW:=ah.mk (Below.refl w.heap.size w)
 have HW0:=ah.mk hB.size
 have HB:=ah.mk hB
 clear hB
 have H:(if(l0.length:Int)>2000 then(if 2000≤(l0.length:Int)then(some (l0.take 2000,0))else(none))else(some (l0,0)))=some (r1,r2):=h
 clear h
 replace H:=sp H
 rcases H with⟨c2,H⟩|⟨c2,H⟩
 ·skip
  have c2b0:=decide_eq_true c2
  have c2b1:=decide_eq_true (by omega)
  clear c2
  by_cases c3:2000≤(l0.length:Int)
  ·rw[if_pos c3]at H
   have c3b0:=eq_true c3
   have c3b1:=decide_eq_true c3
   clear c3
   simp only[Option.some.injEq,Prod.mk.injEq]at H
   obtain⟨rfl,rfl⟩:=H
   obtain⟨i04,akD,_,akE,_⟩:=info_parts info5
   obtain⟨aKE,hA4,hC4⟩:=Gl (P:=Tryz.prog) (Value.int .u8) 0 22 5 .i64 Tryz.underlying22 akD akE A0 c0 l0 2000 (by omega) (of_decide_eq_true za) HC0.out
   have akF:=ah.mk (Kd.C_of_reads (h1:=fun _=>rfl) (hA4 _ (Kd.reads_of_C Gd.out)))
   have aKH:=ah.mk hC4
   clear hA4 hC4 akD akE
   go_enter Tryz.func20,Tryz.ntmps20
   go_wp2_with (first|((with_reducible refine gd 10 rfl ?_);refine bx (N:=10) (cs:=#[.slice A0 (l0.take 2000).length c0,.int .i64 0]) (t:=75) ?_;intro UX hg w5 hbox hb;replace HB:=ah.mk (ai (zb HB) hb);have akG:=ah.mk (hbox);have akH:=ah.mk ((by rw[hg];exact(aJ (by repeat(first|(with_reducible first|exact HBW.out|apply dV|apply eX|apply dG)|exact HBW.out))):w.heap.size≤UX));have akI:=ah.mk ((Nat.le_trans HW0.out (by rw[hg];exact(aJ (by repeat(first|(with_reducible first|exact HBW.out|apply dV|apply eX|apply dG)|exact HBW.out))):w.heap.size≤UX):w0.heap.size≤UX));replace HBW:=ah.mk (ai HBW.out hb);clear hb hbox hg))
   go_ret
   exact⟨_,rfl,(show aK w0 _ UX (l0.take 2000) 0 from⟨_,_,by(with_reducible repeat(first|refine wD ?_ _|refine dn ?_|refine wB ?_ _));exact akG.out,akI.out,akF.out⟩),zb HB,by repeat(first|(with_reducible first|exact HBW.out|apply dV|apply eX|apply dG|refine o8 ?_ akH.out)|exact HBW.out)⟩
  ·rw[if_neg c3]at H
   exact absurd H (by simp)
 ·skip
  have c2b0:=decide_eq_false c2
  have c2b1:=decide_eq_false (by omega)
  clear c2
  simp only[Option.some.injEq,Prod.mk.injEq]at H
  obtain⟨rfl,rfl⟩:=H
  go_enter Tryz.func20,Tryz.ntmps20
  go_wp2_with (first|((with_reducible refine gd 10 rfl ?_);refine bx (N:=10) (cs:=#[.slice A0 l0.length c0,.int .i64 0]) (t:=75) ?_;intro UY hg w6 hbox hb;replace HB:=ah.mk (ai (zb HB) hb);have akJ:=ah.mk (hbox);have akK:=ah.mk ((by rw[hg];exact(aJ (by repeat(first|(with_reducible first|exact HBW.out|apply dV|apply eX|apply dG)|exact HBW.out))):w.heap.size≤UY));have akL:=ah.mk ((Nat.le_trans HW0.out (by rw[hg];exact(aJ (by repeat(first|(with_reducible first|exact HBW.out|apply dV|apply eX|apply dG)|exact HBW.out))):w.heap.size≤UY):w0.heap.size≤UY));replace HBW:=ah.mk (ai HBW.out hb);clear hb hbox hg))
  go_ret
  exact⟨_,rfl,(show aK w0 _ UY l0 0 from⟨_,_,by(with_reducible repeat(first|refine wD ?_ _|refine dn ?_|refine wB ?_ _));exact akJ.out,akL.out,Gd.out⟩),zb HB,by repeat(first|(with_reducible first|exact HBW.out|apply dV|apply eX|apply dG|refine o8 ?_ akK.out)|exact HBW.out)⟩
def av.j0:Nat→Int→Bool→List Int→Int→Option (Int×Int)
 |0,_,_,_,_=>none
 |k+1,x1,x24,x1000,kC=>if x24=true then(some (0,kC))else(if(wrap64 (kC-1))<(x1000.length:Int)then(if 0≤(wrap64 (kC-1))then(if x1=0 then(none)else(some (Int.tmod (wrap64 (rd x1000 (wrap64 (kC-1)))) x1,kC)))else(none))else(if(x1000.length:Int)=0 then(none)else(if 0≤(Int.tmod (wrap64 (kC-1)) (x1000.length:Int))then(if(Int.tmod (wrap64 (kC-1)) (x1000.length:Int))<(x1000.length:Int)then(if 0≤(Int.tmod (wrap64 ((wrap64 ((wrap64 (kC-1))*7))+3)) (x1000.length:Int))then(if(Int.tmod (wrap64 ((wrap64 ((wrap64 (kC-1))*7))+3)) (x1000.length:Int))<(x1000.length:Int)then(if x1=0 then(none)else(some (Int.tmod (Go.bits .xor .i64 (wrap64 ((wrap64 ((wrap64 ((wrap64 ((wrap64 (rd x1000 (Int.tmod (wrap64 (kC-1)) (x1000.length:Int))))*131))+(wrap64 ((wrap64 (rd x1000 (Int.tmod (wrap64 ((wrap64 ((wrap64 (kC-1))*7))+3)) (x1000.length:Int))))*1117))))+(wrap64 ((wrap64 (kC-1))*29))))+(wrap64 ((wrap64 (Int.tdiv (wrap64 (kC-1)) (x1000.length:Int)))*53)))) (wrap64 (Int.tdiv (wrap64 ((wrap64 ((wrap64 ((wrap64 ((wrap64 (rd x1000 (Int.tmod (wrap64 (kC-1)) (x1000.length:Int))))*131))+(wrap64 ((wrap64 (rd x1000 (Int.tmod (wrap64 ((wrap64 ((wrap64 (kC-1))*7))+3)) (x1000.length:Int))))*1117))))+(wrap64 ((wrap64 (kC-1))*29))))+(wrap64 ((wrap64 (Int.tdiv (wrap64 (kC-1)) (x1000.length:Int)))*53)))) 64))) x1,kC)))else(none))else(none))else(none))else(none))))
def av.f(k:Nat)(bJ:List Int)(gy:Int)(a1:Int):Option (Int×Int):=if a1<1 then(av.j0 k a1 true bJ (wrap64 (gy+1)))else(av.j0 k a1 ((bJ.length:Int)==0) bJ (wrap64 (gy+1)))
theorem av.mono_l:∀k,(∀y0 y1 y2 y3,gV (av.j0 k y0 y1 y2 y3) (av.j0 (k+1) y0 y1 y2 y3))
 |0=>fun _ _ _ _ r h=>by simp[av.j0]at h
 |k+1=>by
  have ng:=av.mono_l k
  ·intro y0 y1 y2 y3
   unfold av.j0
   exact zm
theorem av.mono:∀a0 a1 a2 k,gV (av.f k a0 a1 a2) (av.f (k+1) a0 a1 a2):=by
 intro a0 a1 a2 k
 have ng:=av.mono_l k
 unfold av.f
 exact zm
theorem av.calls(k:Nat)(g:Nat)(bJ:List Int)(gy:Int)(a1:Int)(r1:Int)(r2:Int)(w0 w:World)(hI:aK w0 w g bJ gy)(hB:Below w0.heap.size w0 w)(h:av.f k bJ gy a1=some (r1,r2)):
 Calls Tryz.prog 22 #[.pointer (some ⟨g,0,none⟩),.int .i64 a1] w fun e w'=>e= .returned (.int .i64 r1)∧aK w0 w' g bJ r2∧Below w0.heap.size w0 w'∧ay w w' g none:=by
 have HI0:=ah.mk hI
 have HK:=ah.mk (ay.refl w g none)
 have HL:=ah.mk hB.size
 clear hI
 have HW0:=ah.mk hB.size
 have HB:=ah.mk hB
 clear hB
 have H:(if a1<1 then(av.j0 k a1 true bJ (wrap64 (gy+1)))else(av.j0 k a1 ((bJ.length:Int)==0) bJ (wrap64 (gy+1))))=some (r1,r2):=h
 clear h
 have HC3:=ah.mk H
 clear H
 obtain⟨aBj,aBk,a7L,aBl,aBm⟩:=HI0.out
 have um:=wK a7L
 have uo:=wL a7L
 have uq:=ak a7L 1
 clear a7L aBl
 go_enter Tryz.func22,Tryz.ntmps22
 go_upto_region 2 with(fail)
 repeat(go_quiet (fail);go_upto_region 2 with(fail))
 go_cut [24] (fun v24 wc=>∃(kq:Nat)(UZ:Bool),v24= .bool UZ∧ah (av.j0 kq a1 UZ bJ (wrap64 (gy+1))=some (r1,r2))∧ah (kq≤k)∧ah (aK w0 wc g bJ (wrap64 (gy+1)))∧ah (ay w wc g none)∧ah (Below w0.heap.size w0 wc))
 case first=>
  have H:=HC3.out
  clear HC3
  replace H:=sp H
  rcases H with⟨c5,H⟩|⟨c5,H⟩
  ·skip
   have c5b0:=decide_eq_true c5
   clear c5
   (first|rw[c5b0]|rw[c5b1]|rw[c5b2]|(simp only[iC,iQ];rw[c5b0])|skip)
   have H':=ah.mk H
   clear H
   go_wp2
   repeat(go_quiet (fail);try go_wp2)
   go_meet
   case rel=>exact⟨_,(true),zs,H',⟨by first|omega|exact Nat.le_refl _⟩,⟨eD HI0⟩,⟨zh HK⟩,⟨gL HB⟩⟩
  ·skip
   have c5b0:=decide_eq_false c5
   clear c5
   (first|rw[c5b0]|rw[c5b1]|rw[c5b2]|(simp only[iC,iQ];rw[c5b0])|skip)
   have H':=ah.mk H
   clear H
   obtain⟨aBn,aBo,a7M,aBp,aBq⟩:=HI0.out
   have Ez:=wK a7M
   have EA:=wL a7M
   have EB:=ak a7M 1
   clear a7M aBp
   go_wp2
   repeat(go_quiet (fail);try go_wp2)
   go_meet
   case rel=>exact⟨_,(((bJ.length:Int)==0)),zs,H',⟨by first|omega|exact Nat.le_refl _⟩,⟨eD HI0⟩,⟨zh HK⟩,⟨gL HB⟩⟩
 case rest=>
  clear HC3
  try clear c2
  try clear p2
  try clear c5
  try clear c5b0
  try clear c5b1
  try clear c5b2
  try clear p6
  try clear um
  try clear uo
  try clear Ez
  try clear EA
  try clear uq
  try clear EB
  obtain⟨kq,UZ,rfl,HA,HJ2,HI0,HK,HB⟩:=hcut
  cases kq with
  |zero=>exact absurd HA.out (by simp[av.j0])
  |succ kj2=>
   have H:=HA.out
   clear HA
   simp only[av.j0]at H
   by_cases c7:UZ=true
   ·subst c7
    rw[if_pos rfl]at H
    simp only[Option.some.injEq,Prod.mk.injEq]at H
    obtain⟨rfl,rfl⟩:=H
    go_wp2
    repeat(go_quiet (fail);try go_wp2)
    go_ret
    exact⟨ze,eD HI0,gL HB,zh HK⟩
   ·replace c7:=Bool.eq_false_iff.mpr c7
    subst c7
    rw[if_neg (show ¬(false=true) by decide)]at H
    replace H:=sp H
    rcases H with⟨c8,H⟩|⟨c8,H⟩
    ·skip
     have c8b0:=decide_eq_true c8
     clear c8
     obtain⟨ji9,a0z⟩:∃j_:Int,(wrap64 ((wrap64 (gy+1))-1))=j_:=⟨_,rfl⟩
     replace H:(if 0≤(ji9)then(if a1=0 then(none)else(some (Int.tmod (wrap64 (rd bJ (ji9))) a1,(wrap64 (gy+1)))))else(none))=some (r1,r2):=by first|(rw[a0z]at H;exact H)|(simp only[a0z]at H ⊢;exact H)
     (try rw[a0z]at c8b0)
     have hji9w:(IntKind.i64.wrap ((wrap64 (gy+1))-1))=ji9:=(iC _).trans a0z
     by_cases c10:0≤(ji9)
     ·rw[if_pos c10]at H
      have c10b0:=decide_eq_true c10
      clear c10
      by_cases c11:a1=0
      ·rw[if_pos c11]at H
       exact absurd H (by simp)
      ·rw[if_neg c11]at H
       have c11b0:(a1==0)=false:=beq_eq_false_iff_ne.mpr c11
       have c11b1:(a1 != 0)=true:=bne_iff_ne.mpr c11
       simp only[Option.some.injEq,Prod.mk.injEq]at H
       obtain⟨rfl,rfl⟩:=H
       obtain⟨atC,atD,V3,akN,a7N⟩:=HI0.out
       have UD:=wK V3
       have UE:=wL V3
       have UF:=ak V3 1
       clear V3 akN
       have ae9:0≤((ji9):Int):=of_decide_eq_true za
       have aea:(ji9)<(bJ.length:Int):=of_decide_eq_true za
       obtain⟨aKI,aBr,V4⟩:=Kd.at_int a7N (ji9) ae9 aea
       cases aBr
       replace V4:=jG HB.out V4
       replace ae9:=eq_true ae9
       replace aea:=eq_true aea
       go_wp2
       repeat(go_quiet (fail);try go_wp2)
       go_ret
       exact⟨by first|rfl|(simp[gY,gZ]<;>rfl)|(simp only[←a0z];first|rfl|(simp[gY,gZ]<;>rfl))|(simp[*,gY,gZ]<;>rfl)|(simp[gY,gZ];exact(by intro l_;cases l_<;>rfl:∀l_:List UInt8,l_.isEmpty= !(l_ != [])) _),eD HI0,gL HB,zh HK⟩
     ·rw[if_neg c10]at H
      exact absurd H (by simp)
    ·skip
     have c8b0:=decide_eq_false c8
     clear c8
     replace H:=sp H
     rcases H with⟨c13,H⟩|⟨c13,H⟩
     ·skip
      exact absurd H (by simp)
     ·skip
      have c13b0:((bJ.length:Int)==0)=false:=beq_eq_false_iff_ne.mpr c13
      have c13b1:((bJ.length:Int) != 0)=true:=bne_iff_ne.mpr c13
      have c13b2:¬(bJ=[]):=fun h_=>c13 (by rw[h_];rfl)
      obtain⟨Gn,a0A⟩:∃j_:Int,(Int.tmod (wrap64 ((wrap64 (gy+1))-1)) (bJ.length:Int))=j_:=⟨_,rfl⟩
      replace H:(if 0≤(Gn)then(if(Gn)<(bJ.length:Int)then(if 0≤(Int.tmod (wrap64 ((wrap64 ((wrap64 ((wrap64 (gy+1))-1))*7))+3)) (bJ.length:Int))then(if(Int.tmod (wrap64 ((wrap64 ((wrap64 ((wrap64 (gy+1))-1))*7))+3)) (bJ.length:Int))<(bJ.length:Int)then(if a1=0 then(none)else(some (Int.tmod (Go.bits .xor .i64 (wrap64 ((wrap64 ((wrap64 ((wrap64 ((wrap64 (rd bJ (Gn)))*131))+(wrap64 ((wrap64 (rd bJ (Int.tmod (wrap64 ((wrap64 ((wrap64 ((wrap64 (gy+1))-1))*7))+3)) (bJ.length:Int))))*1117))))+(wrap64 ((wrap64 ((wrap64 (gy+1))-1))*29))))+(wrap64 ((wrap64 (Int.tdiv (wrap64 ((wrap64 (gy+1))-1)) (bJ.length:Int)))*53)))) (wrap64 (Int.tdiv (wrap64 ((wrap64 ((wrap64 ((wrap64 ((wrap64 (rd bJ (Gn)))*131))+(wrap64 ((wrap64 (rd bJ (Int.tmod (wrap64 ((wrap64 ((wrap64 ((wrap64 (gy+1))-1))*7))+3)) (bJ.length:Int))))*1117))))+(wrap64 ((wrap64 ((wrap64 (gy+1))-1))*29))))+(wrap64 ((wrap64 (Int.tdiv (wrap64 ((wrap64 (gy+1))-1)) (bJ.length:Int)))*53)))) 64))) a1,(wrap64 (gy+1)))))else(none))else(none))else(none))else(none))=some (r1,r2):=by first|(rw[a0A]at H;exact H)|(simp only[a0A]at H ⊢;exact H)
      replace H:=sp H
      rcases H with⟨c15,H⟩|⟨c15,H⟩
      ·skip
       have c15b0:=decide_eq_true c15
       clear c15
       by_cases c16:(Gn)<(bJ.length:Int)
       ·rw[if_pos c16]at H
        have c16b0:=decide_eq_true c16
        clear c16
        obtain⟨JY,a0B⟩:∃j_:Int,(Int.tmod (wrap64 ((wrap64 ((wrap64 ((wrap64 (gy+1))-1))*7))+3)) (bJ.length:Int))=j_:=⟨_,rfl⟩
        replace H:(if 0≤(JY)then(if(JY)<(bJ.length:Int)then(if a1=0 then(none)else(some (Int.tmod (Go.bits .xor .i64 (wrap64 ((wrap64 ((wrap64 ((wrap64 ((wrap64 (rd bJ (Gn)))*131))+(wrap64 ((wrap64 (rd bJ (JY)))*1117))))+(wrap64 ((wrap64 ((wrap64 (gy+1))-1))*29))))+(wrap64 ((wrap64 (Int.tdiv (wrap64 ((wrap64 (gy+1))-1)) (bJ.length:Int)))*53)))) (wrap64 (Int.tdiv (wrap64 ((wrap64 ((wrap64 ((wrap64 ((wrap64 (rd bJ (Gn)))*131))+(wrap64 ((wrap64 (rd bJ (JY)))*1117))))+(wrap64 ((wrap64 ((wrap64 (gy+1))-1))*29))))+(wrap64 ((wrap64 (Int.tdiv (wrap64 ((wrap64 (gy+1))-1)) (bJ.length:Int)))*53)))) 64))) a1,(wrap64 (gy+1)))))else(none))else(none))=some (r1,r2):=by first|(rw[a0B]at H;exact H)|(simp only[a0B]at H ⊢;exact H)
        by_cases c18:0≤(JY)
        ·rw[if_pos c18]at H
         have c18b0:=decide_eq_true c18
         clear c18
         by_cases c19:(JY)<(bJ.length:Int)
         ·rw[if_pos c19]at H
          have c19b0:=decide_eq_true c19
          clear c19
          by_cases c20:a1=0
          ·rw[if_pos c20]at H
           exact absurd H (by simp)
          ·rw[if_neg c20]at H
           have c20b0:(a1==0)=false:=beq_eq_false_iff_ne.mpr c20
           have c20b1:(a1 != 0)=true:=bne_iff_ne.mpr c20
           simp only[Option.some.injEq,Prod.mk.injEq]at H
           obtain⟨rfl,rfl⟩:=H
           obtain⟨atE,atF,V5,akO,V6⟩:=HI0.out
           have JG:=wK V5
           have JH:=wL V5
           have JI:=ak V5 1
           clear V5 akO
           have aeb:0≤((Gn):Int):=of_decide_eq_true za
           have aec:(Gn)<(bJ.length:Int):=of_decide_eq_true za
           obtain⟨akP,aBs,V7⟩:=Kd.at_int V6 (Gn) aeb aec
           cases aBs
           replace V7:=jG HB.out V7
           replace aeb:=eq_true aeb
           replace aec:=eq_true aec
           have aed:0≤((JY):Int):=of_decide_eq_true za
           have aee:(JY)<(bJ.length:Int):=of_decide_eq_true za
           obtain⟨akQ,e152,V8⟩:=Kd.at_int V6 (JY) aed aee
           obtain rfl:akP=akQ:=(by injection e152)
           replace V8:=jG HB.out V8
           replace aed:=eq_true aed
           replace aee:=eq_true aee
           go_wp2
           repeat(go_quiet (fail);try go_wp2)
           go_ret
           exact⟨by first|rfl|(simp[gY,gZ]<;>rfl)|(simp only[←a0A,←a0B];first|rfl|(simp[gY,gZ]<;>rfl))|(simp[*,gY,gZ]<;>rfl)|(simp[gY,gZ];exact(by intro l_;cases l_<;>rfl:∀l_:List UInt8,l_.isEmpty= !(l_ != [])) _),eD HI0,gL HB,zh HK⟩
         ·rw[if_neg c19]at H
          exact absurd H (by simp)
        ·rw[if_neg c18]at H
         exact absurd H (by simp)
       ·rw[if_neg c16]at H
        exact absurd H (by simp)
      ·skip
       exact absurd H (by simp)
def sj.f:Option ((List (bg))×Int):=some ((([]:List (bg))),64)
theorem sj.calls(r1:List (bg))(r2:Int)(w:World)(h:sj.f=some (r1,r2)):
 Calls Tryz.prog 86 #[] w fun e w'=>∃vk:Value,e= .returned (.agg #[vk,.int .i64 r2])∧Kd.R iF 89 w' w.heap.size (fun _=>True) vk r1∧Below w.heap.size w w':=by
 have zB:=Tryz.underlying25
 have HB:=ah.mk (Below.refl w.heap.size w)
 have H:(some ((([]:List (bg))),64))=some (r1,r2):=h
 clear h
 obtain⟨akR,MH⟩:∃y_:List (bg),y_=(([]:List (bg))):=⟨_,rfl⟩
 replace H:(some (akR,64))=some (r1,r2):=by first|(rw[MH];with_reducible exact H)|(have fF:=(Option.bind_some _ _).symm.trans H;rw[MH];with_reducible exact fF)|(have fF:=(Option.bind_some _ _).symm.trans H;with_reducible exact fF)|with_reducible exact H|(rw[MH];exact H)|exact H
 have abf:=ah.mk MH
 clear MH
 simp only[Option.some.injEq,Prod.mk.injEq]at H
 obtain⟨rfl,rfl⟩:=H
 go_enter Tryz.func86,Tryz.ntmps86
 go_wp2_with (first|((with_reducible refine gd 0 rfl ?_);refine bx (N:=0) (cs:=#[.slice none 0 0,.int .i64 0]) (t:=25) ?_;intro akS hg w1 hbox hb;have MI:=ah.mk (hbox);have akT:=gw HB hg;have aKJ:=akT;replace HB:=ah.mk (ai (zb HB) hb);clear hb hbox hg)|((with_reducible refine gd 1 rfl ?_);refine Kd.R_lit iF _ 89 ?hg (N:=1) ?hd (xs:=([]:List (bg))) (inner:=[]) (ok:=fun _=>True) (okp:=fun _=>True) ?hr ?hp (fun _ hk=>hk) trivial (Below.refl _ _) (Nat.le_refl _) (by simp) ?_;(case hd=>rfl);(case hg=>rfl);(case hr=>first|(go_simp;done)|(go_simp;rfl));(case hp=>exact(dm.none _ _));intro aPm w2 ho3 hb nE fM;clear nE fM;(first|rw[←abf.out]at ho3|(simp only[Int.reduceToNat]at ho3;rw[←abf.out]at ho3));have abg:=ah.mk (Kd.R_lower ho3 (aJ (zb HB)));replace MI:=kb MI hb;replace HB:=ah.mk (ai (zb HB) hb);clear hb ho3;obtain⟨Ao4,co4,eo4⟩:=Kd.R_slice abg.out;subst eo4;obtain⟨adW,adX,adY,adZ⟩:=c2 MI))
 refine bodyPost_ret (results_cell_row rfl _ _ akS 25 #[.slice Ao4 akR.length co4,.int .i64 64] (0,0) _ rfl (zp MI) Tryz.underlying25 rfl (by kernel_rfl)) rfl ?_
 exact⟨_,ze,(Kd.R_mono (qb (Kd.R_types abg.out MI.out (by decide))) (fun _ hk=>trivial)),zb HB⟩
def bU.f(k:Nat)(bJ:List Int)(gy:Int)(l1:List ByteArray):Option (ByteArray×Int):=(av.f k bJ gy (l1.length:Int)).bind fun zG=>(if 0≤zG.1 then(if zG.1<(l1.length:Int)then(some (M8 ByteArray.empty l1 zG.1,zG.2))else(none))else(none))
theorem bU.mono:∀a0 a1 a2 k,gV (bU.f k a0 a1 a2) (bU.f (k+1) a0 a1 a2):=by
 intro a0 a1 a2 k
 unfold bU.f
 have m0:=@av.mono
 exact zm
theorem bU.calls(k:Nat)(g:Nat)(bJ:List Int)(gy:Int)(A1:Option Addr)(c1:Nat)(l1:List ByteArray)(r1:ByteArray)(r2:Int)(w0 w:World)(hI:aK w0 w g bJ gy)(hB:Below w0.heap.size w0 w)(hr1:Kd.C Kd.string w A1 l1.length l1)(hc1:l1.length≤c1)(hf1:∀ad,A1=some ad→0<l1.length→ad.block≠g)(h:bU.f k bJ gy l1=some (r1,r2)):
 Calls Tryz.prog 80 #[.pointer (some ⟨g,0,none⟩),.slice A1 l1.length c1] w fun e w'=>e= .returned (.string r1)∧aK w0 w' g bJ r2∧Below w0.heap.size w0 w'∧ay w w' g none:=by
 have HR1:=ah.mk hr1
 have HC1:=ah.mk hc1
 clear hr1 hc1
 have HI0:=ah.mk hI
 have HK:=ah.mk (ay.refl w g none)
 have HL:=ah.mk hB.size
 clear hI
 have HW0:=ah.mk hB.size
 have HB:=ah.mk hB
 clear hB
 have H:((av.f k bJ gy (l1.length:Int)).bind fun zG=>(if 0≤zG.1 then(if zG.1<(l1.length:Int)then(some (M8 ByteArray.empty l1 zG.1,zG.2))else(none))else(none)))=some (r1,r2):=h
 clear h
 obtain⟨⟨a0C,t212⟩,A3,H⟩:=ob H
 (try dsimp only at H)
 replace H:=sp H
 rcases H with⟨c4,H⟩|⟨c4,H⟩
 ·skip
  have c4b0:=decide_eq_true c4
  clear c4
  by_cases c5:a0C<(l1.length:Int)
  ·rw[if_pos c5]at H
   have c5b0:=decide_eq_true c5
   clear c5
   simp only[Option.some.injEq,Prod.mk.injEq]at H
   obtain⟨rfl,rfl⟩:=H
   go_enter Tryz.func80,Tryz.ntmps80
   go_wp2_with (first|((with_reducible refine gq 22 rfl ?_);refine gl (some 9) Tryz.func22 #[.pointer (some ⟨g,0,none⟩),.int .i64 (l1.length:Int)] ?_;(with_reducible refine(av.calls k g bJ gy (l1.length:Int) a0C t212 w0 _ ?aN ?aQ A3.out).mono ?_);(case aN=>exact eD HI0);(case aQ=>exact gL HB);rintro e w6 ⟨rfl,hi,hb,hk⟩;refine⟨_,rfl,?_⟩;replace HK:=ah.mk (ay.trans (zh HK) hk (.inl rfl));replace HB:=ah.mk (hb);replace HI0:=ah.mk (hi);(try clear hb);(try clear hk);(try clear hi);have aef:0≤(a0C:Int):=of_decide_eq_true za;have aeg:a0C<(l1.length:Int):=of_decide_eq_true za;obtain⟨akW,e213,V9⟩:=Kd.at_string HR1.out a0C aef aeg;cases e213;replace V9:=Bf HK.out V9 (by first|(rw[add_block];exact hf1 _ rfl (by omega))|exact hf1 _ rfl (by omega)|exact hf1 akW rfl (by omega));replace aef:=eq_true aef;replace aeg:=eq_true aeg))
   go_ret
   exact⟨ze,eD HI0,gL HB,zh HK⟩
  ·rw[if_neg c5]at H
   exact absurd H (by simp)
 ·skip
  exact absurd H (by simp)
def jF.f(k:Nat)(bJ:List Int)(gy:Int):Option (ByteArray×Int):=(bU.f k bJ gy (([(⟨#[47,101,99,104,111]⟩:ByteArray),(⟨#[47,101,99,104,111]⟩:ByteArray),(⟨#[47,117,112]⟩:ByteArray),(⟨#[47,117,112]⟩:ByteArray),(⟨#[47,108,101,110]⟩:ByteArray),(⟨#[47,110,111,110,101]⟩:ByteArray),(⟨#[]⟩:ByteArray)]:List ByteArray))).bind fun Cv=>(some (Cv.1,Cv.2))
theorem jF.mono:∀a0 a1 k,gV (jF.f k a0 a1) (jF.f (k+1) a0 a1):=by
 intro a0 a1 k
 unfold jF.f
 have m0:=@bU.mono
 exact zm
theorem jF.calls(k:Nat)(g:Nat)(bJ:List Int)(gy:Int)(r1:ByteArray)(r2:Int)(w0 w:World)(hI:aK w0 w g bJ gy)(hB:Below w0.heap.size w0 w)(h:jF.f k bJ gy=some (r1,r2)):
 Calls Tryz.prog 69 #[.pointer (some ⟨g,0,none⟩)] w fun e w'=>e= .returned (.string r1)∧aK w0 w' g bJ r2∧Below w0.heap.size w0 w'∧ay w w' g none:=by
 have HI0:=ah.mk hI
 have HK:=ah.mk (ay.refl w g none)
 have HL:=ah.mk hB.size
 clear hI
 have HW0:=ah.mk hB.size
 have HB:=ah.mk hB
 clear hB
 have H:((bU.f k bJ gy (([(⟨#[47,101,99,104,111]⟩:ByteArray),(⟨#[47,101,99,104,111]⟩:ByteArray),(⟨#[47,117,112]⟩:ByteArray),(⟨#[47,117,112]⟩:ByteArray),(⟨#[47,108,101,110]⟩:ByteArray),(⟨#[47,110,111,110,101]⟩:ByteArray),(⟨#[]⟩:ByteArray)]:List ByteArray))).bind fun Cv=>(some (Cv.1,Cv.2)))=some (r1,r2):=h
 clear h
 obtain⟨aeh,MJ⟩:∃y_:List ByteArray,y_=(([(⟨#[47,101,99,104,111]⟩:ByteArray),(⟨#[47,101,99,104,111]⟩:ByteArray),(⟨#[47,117,112]⟩:ByteArray),(⟨#[47,117,112]⟩:ByteArray),(⟨#[47,108,101,110]⟩:ByteArray),(⟨#[47,110,111,110,101]⟩:ByteArray),(⟨#[]⟩:ByteArray)]:List ByteArray)):=⟨_,rfl⟩
 replace H:((bU.f k bJ gy aeh).bind fun Cv=>(some (Cv.1,Cv.2)))=some (r1,r2):=by first|(rw[MJ];with_reducible exact H)|(have fF:=(Option.bind_some _ _).symm.trans H;rw[MJ];with_reducible exact fF)|(have fF:=(Option.bind_some _ _).symm.trans H;with_reducible exact fF)|with_reducible exact H|(rw[MJ];exact H)|exact H
 have abh:=ah.mk MJ
 clear MJ
 obtain⟨⟨aBu,t218⟩,A2,H⟩:=ob H
 (try dsimp only at H)
 simp only[Option.some.injEq,Prod.mk.injEq]at H
 obtain⟨rfl,rfl⟩:=H
 go_enter Tryz.func69,Tryz.ntmps69
 go_wp2_with (first|((with_reducible refine gd 4 rfl ?_);refine Kd.R_lit Kd.string _ 9 ?hg (N:=4) ?hd (xs:=([(⟨#[47,101,99,104,111]⟩:ByteArray),(⟨#[47,101,99,104,111]⟩:ByteArray),(⟨#[47,117,112]⟩:ByteArray),(⟨#[47,117,112]⟩:ByteArray),(⟨#[47,108,101,110]⟩:ByteArray),(⟨#[47,110,111,110,101]⟩:ByteArray),(⟨#[]⟩:ByteArray)]:List ByteArray)) (inner:=[.string (⟨#[47,101,99,104,111]⟩:ByteArray),.string (⟨#[47,101,99,104,111]⟩:ByteArray),.string (⟨#[47,117,112]⟩:ByteArray),.string (⟨#[47,117,112]⟩:ByteArray),.string (⟨#[47,108,101,110]⟩:ByteArray),.string (⟨#[47,110,111,110,101]⟩:ByteArray),.string (⟨#[]⟩:ByteArray)]) (ok:=fun _=>True) (okp:=fun _=>True) ?hr ?hp (fun _ hk=>hk) trivial (Below.refl _ _) (Nat.le_refl _) (by simp) ?_;(case hd=>rfl);(case hg=>rfl);(case hr=>first|(go_simp;done)|(go_simp;rfl));(case hp=>exact(dm.one (show Kd.M Kd.string _ _ _ (⟨#[47,101,99,104,111]⟩:ByteArray) [.string (⟨#[47,101,99,104,111]⟩:ByteArray)]from rfl) (dm.one (show Kd.M Kd.string _ _ _ (⟨#[47,101,99,104,111]⟩:ByteArray) [.string (⟨#[47,101,99,104,111]⟩:ByteArray)]from rfl) (dm.one (show Kd.M Kd.string _ _ _ (⟨#[47,117,112]⟩:ByteArray) [.string (⟨#[47,117,112]⟩:ByteArray)]from rfl) (dm.one (show Kd.M Kd.string _ _ _ (⟨#[47,117,112]⟩:ByteArray) [.string (⟨#[47,117,112]⟩:ByteArray)]from rfl) (dm.one (show Kd.M Kd.string _ _ _ (⟨#[47,108,101,110]⟩:ByteArray) [.string (⟨#[47,108,101,110]⟩:ByteArray)]from rfl) (dm.one (show Kd.M Kd.string _ _ _ (⟨#[47,110,111,110,101]⟩:ByteArray) [.string (⟨#[47,110,111,110,101]⟩:ByteArray)]from rfl) (dm.one (show Kd.M Kd.string _ _ _ (⟨#[]⟩:ByteArray) [.string (⟨#[]⟩:ByteArray)]from rfl) (dm.none _ _)))))))));intro aPo w3 MK hb nE fM;clear nE fM;(first|rw[←abh.out]at MK|(simp only[Int.reduceToNat]at MK;rw[←abh.out]at MK));have GL:=ah.mk (Kd.R_lower MK (gH (w:=w) (g:=g) (row:=none) (zh HK)));replace HI0:=ah.mk (aK.below (eD HI0) hb);replace HK:=ah.mk (ay.trans (zh HK) (ay.of_below hb g none) (.inl rfl));replace HB:=ah.mk (ai (gL HB) hb);clear hb MK;obtain⟨Ao5,co5,eo5⟩:=Kd.R_slice GL.out;subst eo5)|((with_reducible refine gq 80 rfl ?_);refine gl (some 5) Tryz.func80 #[.pointer (some ⟨g,0,none⟩),.slice Ao5 aeh.length co5] ?_;(with_reducible refine(bU.calls k g bJ gy _ _ aeh aBu t218 w0 _ ?aN ?aQ ?zH ?zI ?zJ A2.out).mono ?_);(case aN=>exact eD HI0);(case aQ=>exact gL HB);(case zH=>exact zc (Kd.R_reads' GL.out).2.2);(case zI=>exact(Kd.R_reads' GL.out).2.1);(case zJ=>exact sN (aK.own_ne HI0.out GL.out (by decide)));rintro e w6 ⟨rfl,hi,hb,hk⟩;refine⟨_,rfl,?_⟩;replace GL:=ah.mk (Kd.R_mono (Kd.R_keep (aK.apart (show aK w0 _ g bJ gy from eD HI0) (zr GL) (by decide)) hk (fun _ h=>h.2)) (fun _ h=>h.1));replace HK:=ah.mk (ay.trans (zh HK) hk (.inl rfl));replace HB:=ah.mk (hb);replace HI0:=ah.mk (hi);(try clear hb);(try clear hk);(try clear hi)))
 go_ret
 exact⟨ze,eD HI0,gL HB,zh HK⟩
def dJ.l0:Nat→ByteArray→Int→List Int→Int→Option (ByteArray×Int)
 |0,_,_,_,_=>none
 |k+1,x3,x4,x1000,kC=>if x4>0 then((bU.f k x1000 kC (([(⟨#[97]⟩:ByteArray),(⟨#[98]⟩:ByteArray),(⟨#[99]⟩:ByteArray),(⟨#[121]⟩:ByteArray),(⟨#[122]⟩:ByteArray),(⟨#[55]⟩:ByteArray)]:List ByteArray))).bind fun EJ=>(if x3.size+EJ.1.size≤9223372036854775807 then(dJ.l0 k (x3++EJ.1) (wrap64 (x4-1)) x1000 EJ.2)else(none)))else(some (x3,kC))
def dJ.f(k:Nat)(bJ:List Int)(gy:Int):Option (ByteArray×Int):=(av.f k bJ gy 17).bind fun ML=>(dJ.l0 k (⟨#[]⟩:ByteArray) ML.1 bJ ML.2)
theorem dJ.mono_l:∀k,(∀y0 y1 y2 y3,gV (dJ.l0 k y0 y1 y2 y3) (dJ.l0 (k+1) y0 y1 y2 y3))
 |0=>fun _ _ _ _ r h=>by simp[dJ.l0]at h
 |k+1=>by
  have ng:=dJ.mono_l k
  ·intro y0 y1 y2 y3
   unfold dJ.l0
   have m0:=@bU.mono
   have m1:=@av.mono
   exact zm
theorem dJ.mono:∀a0 a1 k,gV (dJ.f k a0 a1) (dJ.f (k+1) a0 a1):=by
 intro a0 a1 k
 have ng:=dJ.mono_l k
 unfold dJ.f
 have m0:=@bU.mono
 have m1:=@av.mono
 exact zm
theorem dJ.calls(k:Nat)(g:Nat)(bJ:List Int)(gy:Int)(r1:ByteArray)(r2:Int)(w0 w:World)(hI:aK w0 w g bJ gy)(hB:Below w0.heap.size w0 w)(h:dJ.f k bJ gy=some (r1,r2)):
 Calls Tryz.prog 70 #[.pointer (some ⟨g,0,none⟩)] w fun e w'=>e= .returned (.string r1)∧aK w0 w' g bJ r2∧Below w0.heap.size w0 w'∧ay w w' g none:=by
 have HI0:=ah.mk hI
 have HK:=ah.mk (ay.refl w g none)
 have HL:=ah.mk hB.size
 clear hI
 have HW0:=ah.mk hB.size
 have HB:=ah.mk hB
 clear hB
 have H:((av.f k bJ gy 17).bind fun ML=>(dJ.l0 k (⟨#[]⟩:ByteArray) ML.1 bJ ML.2))=some (r1,r2):=h
 clear h
 obtain⟨⟨akX,akY⟩,A2,H⟩:=ob H
 (try dsimp only at H)
 have H':=ah.mk H
 clear H
 go_enter Tryz.func70,Tryz.ntmps70
 go_wp2_with (first|((with_reducible refine gq 22 rfl ?_);refine gl (some 6) Tryz.func22 #[.pointer (some ⟨g,0,none⟩),.int .i64 17] ?_;(with_reducible refine(av.calls k g bJ gy 17 akX akY w0 _ ?aN ?aQ A2.out).mono ?_);(case aN=>exact eD HI0);(case aQ=>exact gL HB);rintro e w3 ⟨rfl,hi,hb,hk⟩;refine⟨_,rfl,?_⟩;replace HK:=ah.mk (ay.trans (zh HK) hk (.inl rfl));replace HB:=ah.mk (hb);replace HI0:=ah.mk (hi);(try clear hb);(try clear hk);(try clear hi)))
 go_loopg [3,4] k (fun kq v3 v4 w'=>∃(cO:ByteArray)(eu:Int)(iB:Int),v3= .string cO∧v4= .int .i64 eu∧ah (dJ.l0 kq cO eu bJ iB=some (r1,r2))∧ah (kq≤k)∧ah (aK w0 w' g bJ iB)∧ah (ay w w' g none)∧ah (Below w0.heap.size w0 w'))
 case atStart=>exact⟨((⟨#[]⟩:ByteArray)),(akX),(akY),zs,zs,H',⟨Nat.le_refl _⟩,⟨eD HI0⟩,⟨zh HK⟩,⟨gL HB⟩⟩
 case round=>
  clear H'
  try clear c2
  try clear p2
  obtain⟨cO,eu,iB,rfl,rfl,HA,jc,HI0,HK,HB⟩:=hrel
  cases gk with
  |zero=>exact absurd HA.out (by simp[dJ.l0])
  |succ k1=>
   have H:=HA.out
   clear HA
   simp only[dJ.l0]at H
   replace H:=sp H
   rcases H with⟨c4,H⟩|⟨c4,H⟩
   ·skip
    have c4b0:=decide_eq_true c4
    clear c4
    obtain⟨aek,MN⟩:∃y_:List ByteArray,y_=(([(⟨#[97]⟩:ByteArray),(⟨#[98]⟩:ByteArray),(⟨#[99]⟩:ByteArray),(⟨#[121]⟩:ByteArray),(⟨#[122]⟩:ByteArray),(⟨#[55]⟩:ByteArray)]:List ByteArray)):=⟨_,rfl⟩
    replace H:((bU.f k1 bJ iB aek).bind fun EJ=>(if cO.size+EJ.1.size≤9223372036854775807 then(dJ.l0 k1 (cO++EJ.1) (wrap64 (eu-1)) bJ EJ.2)else(none)))=some (r1,r2):=by first|(rw[MN];with_reducible exact H)|(have fF:=(Option.bind_some _ _).symm.trans H;rw[MN];with_reducible exact fF)|(have fF:=(Option.bind_some _ _).symm.trans H;with_reducible exact fF)|with_reducible exact H|(rw[MN];exact H)|exact H
    have abj:=ah.mk MN
    clear MN
    obtain⟨⟨a7O,akZ⟩,A5,H⟩:=ob H
    (try dsimp only at H)
    by_cases c6:cO.size+a7O.size≤9223372036854775807
    ·rw[if_pos c6]at H
     have c6b0:=eq_true c6
     have c6b1:=decide_eq_true c6
     try have c6b2:(9223372036854775807<cO.size+a7O.size)=False:=eq_false (Nat.not_lt.2 c6)
     have H':=ah.mk H
     clear H
     go_wp2_with (first|((with_reducible refine gd 13 rfl ?_);refine Kd.R_lit Kd.string _ 9 ?hg (N:=13) ?hd (xs:=([(⟨#[97]⟩:ByteArray),(⟨#[98]⟩:ByteArray),(⟨#[99]⟩:ByteArray),(⟨#[121]⟩:ByteArray),(⟨#[122]⟩:ByteArray),(⟨#[55]⟩:ByteArray)]:List ByteArray)) (inner:=[.string (⟨#[97]⟩:ByteArray),.string (⟨#[98]⟩:ByteArray),.string (⟨#[99]⟩:ByteArray),.string (⟨#[121]⟩:ByteArray),.string (⟨#[122]⟩:ByteArray),.string (⟨#[55]⟩:ByteArray)]) (ok:=fun _=>True) (okp:=fun _=>True) ?hr ?hp (fun _ hk=>hk) trivial (Below.refl _ _) (Nat.le_refl _) (by simp) ?_;(case hd=>rfl);(case hg=>rfl);(case hr=>first|(go_simp;done)|(go_simp;rfl));(case hp=>exact(dm.one (show Kd.M Kd.string _ _ _ (⟨#[97]⟩:ByteArray) [.string (⟨#[97]⟩:ByteArray)]from rfl) (dm.one (show Kd.M Kd.string _ _ _ (⟨#[98]⟩:ByteArray) [.string (⟨#[98]⟩:ByteArray)]from rfl) (dm.one (show Kd.M Kd.string _ _ _ (⟨#[99]⟩:ByteArray) [.string (⟨#[99]⟩:ByteArray)]from rfl) (dm.one (show Kd.M Kd.string _ _ _ (⟨#[121]⟩:ByteArray) [.string (⟨#[121]⟩:ByteArray)]from rfl) (dm.one (show Kd.M Kd.string _ _ _ (⟨#[122]⟩:ByteArray) [.string (⟨#[122]⟩:ByteArray)]from rfl) (dm.one (show Kd.M Kd.string _ _ _ (⟨#[55]⟩:ByteArray) [.string (⟨#[55]⟩:ByteArray)]from rfl) (dm.none _ _))))))));intro v222 w7 ho8 hb nE fM;clear nE fM;(first|rw[←abj.out]at ho8|(simp only[Int.reduceToNat]at ho8;rw[←abj.out]at ho8));have GN:=ah.mk (Kd.R_lower ho8 (gH (w:=w) (g:=g) (row:=none) (zh HK)));replace HI0:=ah.mk (aK.below (eD HI0) hb);replace HK:=ah.mk (ay.trans (zh HK) (ay.of_below hb g none) (.inl rfl));replace HB:=ah.mk (ai (gL HB) hb);clear hb ho8;obtain⟨Ao9,co9,eo9⟩:=Kd.R_slice GN.out;subst eo9)|((with_reducible refine gq 80 rfl ?_);refine gl (some 14) Tryz.func80 #[.pointer (some ⟨g,0,none⟩),.slice Ao9 aek.length co9] ?_;(with_reducible refine(bU.calls k1 g bJ iB _ _ aek a7O akZ w0 _ ?aN ?aQ ?zH ?zI ?zJ A5.out).mono ?_);(case aN=>exact eD HI0);(case aQ=>exact gL HB);(case zH=>exact zc (Kd.R_reads' GN.out).2.2);(case zI=>exact(Kd.R_reads' GN.out).2.1);(case zJ=>exact sN (aK.own_ne HI0.out GN.out (by decide)));rintro e w10 ⟨rfl,hi,hb,hk⟩;refine⟨_,rfl,?_⟩;replace GN:=ah.mk (Kd.R_mono (Kd.R_keep (aK.apart (show aK w0 _ g bJ iB from eD HI0) (zr GN) (by decide)) hk (fun _ h=>h.2)) (fun _ h=>h.1));replace HK:=ah.mk (ay.trans (zh HK) hk (.inl rfl));replace HB:=ah.mk (hb);replace HI0:=ah.mk (hi);(try clear hb);(try clear hk);(try clear hi)))
     go_roundg k1
     case measure=>have:=jc.out;omega
     case rel=>exact⟨(cO++a7O),(wrap64 (eu-1)),(akZ),zs,zs,H',⟨by have:=jc.out;omega⟩,⟨eD HI0⟩,⟨zh HK⟩,⟨gL HB⟩⟩
    ·rw[if_neg c6]at H
     exact absurd H (by simp)
   ·skip
    have c4b0:=decide_eq_false c4
    clear c4
    simp only[Option.some.injEq,Prod.mk.injEq]at H
    obtain⟨rfl,rfl⟩:=H
    go_wp2
    go_ret
    exact⟨ze,eD HI0,gL HB,zh HK⟩
def eU.l0:Nat→Int→Int→Bool→List (bg)→Int→List (bg)→Int→ByteArray→List (pV)→Int→Int→List (nC)→Bool→Option (Int)
 |0,_,_,_,_,_,_,_,_,_,_,_,_,_=>none
 |k+1,x1,x5,a7P,a7Q,a7R,a7S,a7T,a7U,JZ,a7V,a7W,a7X,a7Y=>if x5<(JZ.length:Int)then(if 0≤x5 then(if((fe JZ x5).f0)=x1 then(some x5)else(eU.l0 k x1 (wrap64 (x5+1)) a7P a7Q a7R a7S a7T a7U JZ a7V a7W a7X a7Y))else(none))else(some (-1))
def eU.f(k:Nat)(aV:Bool)(EK:List (bg))(dN:Int)(EL:List (bg))(lI:Int)(lJ:ByteArray)(vo:List (pV))(MO:Int)(jf:Int)(EM:List (nC))(gW:Bool)(a1:Int):Option (Int):=eU.l0 k a1 0 aV EK dN EL lI lJ vo MO jf EM gW
theorem eU.mono_l:∀k,(∀y0 y1 y2 y3 y4 y5 y6 y7 y8 y9 xD y11 y12,gV (eU.l0 k y0 y1 y2 y3 y4 y5 y6 y7 y8 y9 xD y11 y12) (eU.l0 (k+1) y0 y1 y2 y3 y4 y5 y6 y7 y8 y9 xD y11 y12))
 |0=>fun _ _ _ _ _ _ _ _ _ _ _ _ _ r h=>by simp[eU.l0]at h
 |k+1=>by
  have ng:=eU.mono_l k
  ·intro y0 y1 y2 y3 y4 y5 y6 y7 y8 y9 xD y11 y12
   unfold eU.l0
   exact zm
theorem eU.mono:∀a0 a1 a2 a3 a4 a5 a6 a7 a8 a9 Mw QD k,gV (eU.f k a0 a1 a2 a3 a4 a5 a6 a7 a8 a9 Mw QD) (eU.f (k+1) a0 a1 a2 a3 a4 a5 a6 a7 a8 a9 Mw QD):=by
 intro a0 a1 a2 a3 a4 a5 a6 a7 a8 a9 Mw QD k
 have ng:=eU.mono_l k
 unfold eU.f
 exact zm
theorem eU.calls(k:Nat)(aV:Bool)(a7Z:Option Addr)(a81:Nat)(EK:List (bg))(dN:Int)(a88:Option Addr)(a8a:Nat)(EL:List (bg))(lI:Int)(lJ:ByteArray)(a8b:Option Addr)(a8c:Nat)(vo:List (pV))(MO:Int)(jf:Int)(a8d:Option Addr)(a8e:Nat)(EM:List (nC))(gW:Bool)(a1:Int)(r:Int)(w:World)(abk:Kd.C iF w a7Z EK.length EK)(abl:EK.length≤a81)(abm:Kd.C iF w a88 EL.length EL)(abn:EL.length≤a8a)(abo:Kd.C Gc w a8b vo.length vo)(abp:vo.length≤a8c)(abq:Kd.C Ym w a8d EM.length EM)(abr:EM.length≤a8e)(h:eU.f k aV EK dN EL lI lJ vo MO jf EM gW a1=some r):
 Calls Tryz.prog 49 #[.agg #[.bool aV,.slice a7Z EK.length a81,.int .i64 dN,.slice a88 EL.length a8a,.int .i64 lI,.string lJ,.slice a8b vo.length a8c,.int .i64 MO,.int .i64 jf,.slice a8d EM.length a8e,.bool gW],.int .i64 a1] w fun e w'=>e= .returned (.int .i64 r)∧Below w.heap.size w w':=by
 have aPp:=Tryz.underlying31
 have aKK:=ah.mk abk
 have aKL:=ah.mk abl
 clear abk abl
 have aKM:=ah.mk abm
 have aKN:=ah.mk abn
 clear abm abn
 have abt:=ah.mk abo
 have aKO:=ah.mk abp
 clear abo abp
 have aKP:=ah.mk abq
 have aKQ:=ah.mk abr
 clear abq abr
 have HB:=ah.mk (Below.refl w.heap.size w)
 have H:(eU.l0 k a1 0 aV EK dN EL lI lJ vo MO jf EM gW)=some r:=h
 clear h
 have H':=ah.mk H
 clear H
 go_enter Tryz.func49,Tryz.ntmps49
 go_wp2_with (first|((with_reducible refine gd 2 rfl ?_);refine bx (N:=2) (cs:=#[.bool aV,.slice a7Z EK.length a81,.int .i64 dN,.slice a88 EL.length a8a,.int .i64 lI,.string lJ,.slice a8b vo.length a8c,.int .i64 MO,.int .i64 jf,.slice a8d EM.length a8e,.bool gW]) (t:=31) ?_;intro al0 hg w3 hbox hb;have GQ:=ah.mk (hbox);have al1:=gw HB hg;have aKR:=al1;replace HB:=ah.mk (ai (zb HB) hb);clear hb hbox hg))
 go_loopg [5] k (fun kq v5 w'=>∃(jE:Int),v5= .int .i64 jE∧ah (eU.l0 kq a1 jE aV EK dN EL lI lJ vo MO jf EM gW=some r)∧ah (kq≤k)∧ah (w'.heap[al0]?=some (.cells #[.bool aV,(.slice a7Z EK.length a81),.int .i64 dN,(.slice a88 EL.length a8a),.int .i64 lI,.string lJ,(.slice a8b vo.length a8c),.int .i64 MO,.int .i64 jf,(.slice a8d EM.length a8e),.bool gW] 31 (0,0)))∧ah (Below w.heap.size w w'))
 case atStart=>exact⟨(0),zs,H',⟨Nat.le_refl _⟩,⟨by exact zk GQ⟩,⟨zb HB⟩⟩
 case round=>
  clear H'
  try clear p2
  obtain⟨jE,rfl,HA,jc,GQ,HB⟩:=hrel
  cases gk with
  |zero=>exact absurd HA.out (by simp[eU.l0])
  |succ k1=>
   have H:=HA.out
   clear HA
   simp only[eU.l0]at H
   replace H:=sp H
   rcases H with⟨c4,H⟩|⟨c4,H⟩
   ·skip
    have c4b0:=decide_eq_true c4
    clear c4
    by_cases c5:0≤jE
    ·rw[if_pos c5]at H
     have c5b0:=decide_eq_true c5
     clear c5
     by_cases c6:((fe vo jE).f0)=a1
     ·rw[if_pos c6]at H
      have c6b0:(((fe vo jE).f0)==a1)=true:=beq_iff_eq.mpr c6
      have c6b1:(((fe vo jE).f0) != a1)=false:=bne_eq_false_iff_eq.mpr c6
      clear c6
      obtain rfl:=Option.some.inj H
      obtain⟨yB,yC,a08,aBy,aBz,aBA,aBB,aBC,aBD,aBE,atG,yD,yE,a09,aBF,aBG,aBH,aBI,aBJ,aBK,aBL,atH⟩:=c11 GQ
      have QI:0≤(jE:Int):=of_decide_eq_true za
      have QJ:jE<(vo.length:Int):=of_decide_eq_true za
      obtain⟨al2,aem,aen,aeo,aep,aer,zK,zL,zM,zN,zO,zP,zQ,zR,zT,zU,vG,vH,zV,zX,zY,zZ⟩:=YL abt.out jE QI QJ
      cases aer
      replace zK:=pM zK HB
      replace zL:=pM zL HB
      replace zM:=pM zM HB
      replace zN:=pM zN HB
      replace zO:=pM zO HB
      replace zP:=pM zP HB
      replace zQ:=pM zQ HB
      replace zR:=pM zR HB
      replace zT:=pM zT HB
      replace zU:=pM zU HB
      replace vG:=pM vG HB
      replace vH:=pM vH HB
      have a8f:=ah.mk zX
      have a8g:=ah.mk zV
      clear zX zV
      have a8h:=ah.mk zZ
      have a8i:=ah.mk zY
      clear zZ zY
      replace QI:=eq_true QI
      replace QJ:=eq_true QJ
      go_wp2
      go_ret
      exact⟨ze,zb HB⟩
     ·rw[if_neg c6]at H
      have c6b0:(((fe vo jE).f0)==a1)=false:=beq_eq_false_iff_ne.mpr c6
      have c6b1:(((fe vo jE).f0) != a1)=true:=bne_iff_ne.mpr c6
      have H':=ah.mk H
      clear H
      obtain⟨Bq,Br,aes,aeu,aev,aew,aex,aey,aez,aeA,a8j,Bt,Bu,aeB,aeC,aeD,aeE,aeF,aeG,aeH,aeI,a8k⟩:=c11 GQ
      have QI:0≤(jE:Int):=of_decide_eq_true za
      have QJ:jE<(vo.length:Int):=of_decide_eq_true za
      obtain⟨al2,aem,aen,aeo,aep,aer,zK,zL,zM,zN,zO,zP,zQ,zR,zT,zU,vG,vH,zV,zX,zY,zZ⟩:=YL abt.out jE QI QJ
      cases aer
      replace zK:=pM zK HB
      replace zL:=pM zL HB
      replace zM:=pM zM HB
      replace zN:=pM zN HB
      replace zO:=pM zO HB
      replace zP:=pM zP HB
      replace zQ:=pM zQ HB
      replace zR:=pM zR HB
      replace zT:=pM zT HB
      replace zU:=pM zU HB
      replace vG:=pM vG HB
      replace vH:=pM vH HB
      have a8f:=ah.mk zX
      have a8g:=ah.mk zV
      clear zX zV
      have a8h:=ah.mk zZ
      have a8i:=ah.mk zY
      clear zZ zY
      replace QI:=eq_true QI
      replace QJ:=eq_true QJ
      go_wp2
      go_roundg k1
      case measure=>have:=jc.out;omega
      case rel=>exact⟨(wrap64 (jE+1)),zs,H',⟨by have:=jc.out;omega⟩,⟨by exact zk GQ⟩,⟨zb HB⟩⟩
    ·rw[if_neg c5]at H
     exact absurd H (by simp)
   ·skip
    have c4b0:=decide_eq_false c4
    clear c4
    obtain rfl:=Option.some.inj H
    obtain⟨yj,yo,Bv,ZR,aeJ,aeK,aeL,aeM,aeN,aeO,a8l,yt,yu,Bw,ZT,aeP,aeQ,aeR,aeS,aeT,aeU,a8m⟩:=c11 GQ
    go_wp2
    go_ret
    exact⟨ze,zb HB⟩
def dH.f:Nat→Int→Option (ByteArray)
 |0,_=>none
 |k+1,a0=>if a0<(-9223372036854775807)then(some (⟨#[45,57,50,50,51,51,55,50,48,51,54,56,53,52,55,55,53,56,48,56]⟩:ByteArray))else(if a0<0 then((dH.f k (wrap64 (-a0))).bind fun K3=>(if 1+K3.size≤9223372036854775807 then(some ((⟨#[45]⟩:ByteArray)++K3))else(none)))else(if a0<10 then(some (strOfNums (([(wrap64 (48+a0))%256]:List Int))))else((dH.f k (wrap64 (Int.tdiv a0 10))).bind fun BB=>((some (([(wrap64 (48+(Int.tmod a0 10)))%256]:List Int):List Int)).bind fun D6=>(if BB.size+(strOfNums D6).size≤9223372036854775807 then(some (BB++(strOfNums D6)))else(none))))))
theorem dH.mono_l:∀k,(∀y0,gV (dH.f k y0) (dH.f (k+1) y0))
 |0=>fun _ r h=>by simp[dH.f]at h
 |k+1=>by
  have ng:=dH.mono_l k
  ·intro y0
   unfold dH.f
   exact zm
theorem dH.mono:∀a0 k,gV (dH.f k a0) (dH.f (k+1) a0):=by
 intro a0 k
 have ng:=dH.mono_l k
 exact ng a0
def dH.T7:Bool×List (List Nat×List Nat):=(true,[([],[]),([0],[0]),([1],[1]),([],[]),([3],[3]),([4],[4]),([5],[5]),([6],[6]),([7],[7]),([2,8],[2,8]),([9,2,0,1,2,3,4,5,6,7,8,9],[9])])
def dH.B7:List Nat:=[0,1,3,0,8,24,56,120,248,511,1023]
theorem dH.tab7:jm .any (opsOf Tryz.f87 7)=dH.T7:=by kernel_rfl
theorem dH.bits7:fQ dH.T7.2 dH.B7=true:=by kernel_rfl
theorem dH.calls(k:Nat):∀(a0:Int)(r:ByteArray)(w:World)(h:dH.f k a0=some r),
 Calls Tryz.prog 87 #[.int .i64 a0] w fun e w'=>e= .returned (.string r)∧Below w.heap.size w w':=by
 induction k using Nat.strongRecOn with
 |_ k ih=>
 intro a0 r w h
 cases k with
 |zero=>exact absurd h (by simp[dH.f])
 |succ k=>
 simp only[dH.f]at h
 have HB:=ah.mk (Below.refl w.heap.size w)
 have H:(if a0<(-9223372036854775807)then(some (⟨#[45,57,50,50,51,51,55,50,48,51,54,56,53,52,55,55,53,56,48,56]⟩:ByteArray))else(if a0<0 then((dH.f k (wrap64 (-a0))).bind fun K3=>(if 1+K3.size≤9223372036854775807 then(some ((⟨#[45]⟩:ByteArray)++K3))else(none)))else(if a0<10 then(some (strOfNums (([(wrap64 (48+a0))%256]:List Int))))else((dH.f k (wrap64 (Int.tdiv a0 10))).bind fun BB=>((some (([(wrap64 (48+(Int.tmod a0 10)))%256]:List Int):List Int)).bind fun D6=>(if BB.size+(strOfNums D6).size≤9223372036854775807 then(some (BB++(strOfNums D6)))else(none)))))))=some r:=h
 clear h
 replace H:=sp H
 rcases H with⟨c2,H⟩|⟨c2,H⟩
 ·skip
  have c2b0:=decide_eq_true c2
  clear c2
  obtain rfl:=Option.some.inj H
  go_enter Tryz.func87,Tryz.ntmps87
  go_wp2
  go_ret
  exact⟨ze,zb HB⟩
 ·skip
  have c2b0:=decide_eq_false c2
  clear c2
  replace H:=sp H
  rcases H with⟨c3,H⟩|⟨c3,H⟩
  ·skip
   have c3b0:=decide_eq_true c3
   clear c3
   obtain⟨K3,A4,H⟩:=ob H
   (try dsimp only at H)
   by_cases c5:1+K3.size≤9223372036854775807
   ·rw[if_pos c5]at H
    have c5b0:=eq_true c5
    have c5b1:=decide_eq_true c5
    try have c5b2:(9223372036854775807<1+K3.size)=False:=eq_false (Nat.not_lt.2 c5)
    obtain rfl:=Option.some.inj H
    go_enter Tryz.func87,Tryz.ntmps87
    go_wp2_with (first|((with_reducible refine gq 87 rfl ?_);refine gl (some 9) Tryz.func87 #[.int .i64 (wrap64 (-a0))] ?_;(with_reducible refine(ih k (by omega) (wrap64 (-a0)) K3 _ A4.out).mono ?_);rintro e w6 ⟨rfl,hb⟩;refine⟨_,rfl,?_⟩;replace HB:=ah.mk (ai (zb HB) hb);(try clear hb)))
    go_ret
    exact⟨ze,zb HB⟩
   ·rw[if_neg c5]at H
    exact absurd H (by simp)
  ·skip
   have c3b0:=decide_eq_false c3
   clear c3
   replace H:=sp H
   rcases H with⟨c7,H⟩|⟨c7,H⟩
   ·skip
    have c7b0:=decide_eq_true c7
    clear c7
    obtain⟨aBM,MP⟩:∃y_:List Int,y_=(([(wrap64 (48+a0))%256]:List Int)):=⟨_,rfl⟩
    replace H:(some (strOfNums aBM))=some r:=by first|(rw[MP];with_reducible exact H)|(have fF:=(Option.bind_some _ _).symm.trans H;rw[MP];with_reducible exact fF)|(have fF:=(Option.bind_some _ _).symm.trans H;with_reducible exact fF)|with_reducible exact H|(rw[MP];exact H)|exact H
    have abu:=ah.mk MP
    clear MP
    obtain rfl:=Option.some.inj H
    go_enter Tryz.func87,Tryz.ntmps87
    go_wp2_with (first|((with_reducible refine gd 16 rfl ?_);refine Kd.R_lit (Kd.int .u8) _ 5 ?hg (N:=16) ?hd (xs:=([(wrap64 (48+a0))%256]:List Int)) (inner:=[.int .u8 ((wrap64 (48+a0))%256)]) (ok:=fun _=>True) (okp:=fun _=>True) ?hr ?hp (fun _ hk=>hk) trivial (Below.refl _ _) (Nat.le_refl _) (by simp) ?_;(case hd=>rfl);(case hg=>rfl);(case hr=>first|(go_simp;done)|(go_simp;rfl));(case hp=>exact(dm.one (show Kd.M (Kd.int .u8) _ _ _ ((wrap64 (48+a0))%256) [.int .u8 ((wrap64 (48+a0))%256)]from rfl) (dm.none _ _)));intro aPq w8 MQ hb nE fM;clear nE fM;(first|rw[←abu.out]at MQ|(simp only[Int.reduceToNat]at MQ;rw[←abu.out]at MQ));have al3:=ah.mk (Kd.R_lower MQ (aJ (zb HB)));replace HB:=ah.mk (ai (zb HB) hb);clear hb MQ;have al4:=lN (P:=Tryz.prog) Tryz.underlying22 Tryz.underlying5 Tryz.underlying9 (Kd.own_of_R al3.out)))
    go_ret
    exact⟨ze,zb HB⟩
   ·skip
    have c7b0:=decide_eq_false c7
    clear c7
    obtain⟨BB,A11,H⟩:=ob H
    (try dsimp only at H)
    obtain⟨D6,MR⟩:∃y_:List Int,y_=(([(wrap64 (48+(Int.tmod a0 10)))%256]:List Int)):=⟨_,rfl⟩
    replace H:(if BB.size+(strOfNums D6).size≤9223372036854775807 then(some (BB++(strOfNums D6)))else(none))=some r:=by first|(rw[MR];with_reducible exact H)|(have fF:=(Option.bind_some _ _).symm.trans H;rw[MR];with_reducible exact fF)|(have fF:=(Option.bind_some _ _).symm.trans H;with_reducible exact fF)|with_reducible exact H|(rw[MR];exact H)|exact H
    have Va:=ah.mk MR
    clear MR
    replace H:=sp H
    rcases H with⟨c12,H⟩|⟨c12,H⟩
    ·skip
     have c12b0:=eq_true c12
     have c12b1:=decide_eq_true c12
     try have c12b2:(9223372036854775807<BB.size+(strOfNums D6).size)=False:=eq_false (Nat.not_lt.2 c12)
     obtain rfl:=Option.some.inj H
     go_enter Tryz.func87,Tryz.ntmps87
     try go_wp2
     replace HB:=ah.mk (dG HB.out)
     refine tZ (n:=11) (S:=fun w'=>True) (ds:=[]) #[false,false,false,false,false,false,false,false,false,false,false] (by kernel_rfl) rfl rfl trivial (fun hHeld=>?_);refine bR dH.tab7 dH.bits7 (fun HT_ HW_=>?_)
     generalize w.drew=w13 at HB hHeld ⊢
     refine pu 0 (some 18) (bm 11 1) rfl rfl ?_
     refine pu 1 (some 19) (bm 11 3) rfl rfl ?_
     refine pu 3 (some 21) (bm 11 11) rfl rfl ?_
     refine pu 4 (some 22) (bm 11 27) rfl rfl ?_
     refine pu 5 (some 23) (bm 11 59) rfl rfl ?_
     refine pu 6 (some 24) (bm 11 123) rfl rfl ?_
     refine aaX (σ:=Value) 2 #[true,true,true,true,true,true,true,true,true,false,false] (fun s_=>[(20,.string BB),(25,s_),(26,.string (strOfNums D6))]) (fun s_ w'=>(Kd.R (Kd.int .u8) 5 w' w.heap.size (fun _=>True) s_ D6)∧(Below w.heap.size w w')) ?_ ?_
     rotate_left
     ·intro hCont
      refine ady (i:=2) (j:=7) (Ni:=some 20) (Nj:=some 25) #[true,true,true,true,true,true,true,false,false,false,false] #[true,true,false,true,true,true,true,true,false,false,false] rfl rfl rfl rfl (QB HT_.out (by kernel_rfl)) (by decide) (by decide) (fun K hK=>?_) (fun K hK=>?_)
      ·skip
       refine gs Tryz.func87 #[.int .i64 (wrap64 (Int.tdiv a0 10))] ?_
       with_reducible refine(ih k (by omega) (wrap64 (Int.tdiv a0 10)) BB _ A11.out).mono ?_
       rintro e D5 ⟨rfl,hb⟩
       refine⟨_,rfl,?_⟩
       replace HB:=ah.mk (ai (zb HB) hb)
       (try clear hb)
       refine hK.out _ _ trivial (fun hHeld=>?_)
       clear hK K
       refine nm ?_
       refine fV (i:=7) (N:=some 25) (bm 11 255) rfl rfl (bL HT_.out (by kernel_rfl)) (by decide) (fun K hK=>?_)
       refine Kd.R_lit_step (Kd.int .u8) _ 5 ?hg (N:=25) ?hd (xs:=([(wrap64 (48+(Int.tmod a0 10)))%256]:List Int)) (inner:=[.int .u8 ((wrap64 (48+(Int.tmod a0 10)))%256)]) (ok:=fun _=>True) (okp:=fun _=>True) ?hr ?hp (fun _ hk=>hk) trivial (Below.refl _ _) (Nat.le_refl _) (by simp) ?_;(case hd=>rfl);(case hg=>rfl);(case hr=>first|(go_simp;done)|(go_simp;rfl));(case hp=>exact(dm.one (show Kd.M (Kd.int .u8) _ _ _ ((wrap64 (48+(Int.tmod a0 10)))%256) [.int .u8 ((wrap64 (48+(Int.tmod a0 10)))%256)]from rfl) (dm.none _ _)))
       intro Xo w15 a0E hb nE fM
       clear nE fM
       (first|rw[←Va.out]at a0E|(simp only[Int.reduceToNat]at a0E;rw[←Va.out]at a0E))
       have uR:=ah.mk (Kd.R_lower a0E (aJ (zb HB)))
       replace HB:=ah.mk (ai (zb HB) hb)
       clear hb a0E
       refine hK.out _ _ trivial (fun hHeld=>?_)
       clear hK K
       refine nm ?_
       refine fV (i:=8) (N:=some 26) (bm 11 511) rfl rfl (bL HT_.out (by kernel_rfl)) (by decide) (fun K hK=>?_)
       have a0F:=lN (P:=Tryz.prog) Tryz.underlying22 Tryz.underlying5 Tryz.underlying9 (Kd.own_of_R uR.out)
       refine Qj (w1:=?_) (v:=?_) (by rfl) rfl ?_ ?_
       rotate_left 2
       ·go_simp
        constructor
        ·rfl
        ·rfl
       clear a0F
       refine hK.out _ _ trivial (fun hHeld=>?_)
       clear hK K
       refine nm ?_
       exact yT (by simp only[rY,Act.put,s1,s2,s3]) (hCont (Xo) _ ⟨(zr uR),(zb HB)⟩)
      ·skip
       refine Kd.R_lit_step (Kd.int .u8) _ 5 ?hg (N:=25) ?hd (xs:=([(wrap64 (48+(Int.tmod a0 10)))%256]:List Int)) (inner:=[.int .u8 ((wrap64 (48+(Int.tmod a0 10)))%256)]) (ok:=fun _=>True) (okp:=fun _=>True) ?hr ?hp (fun _ hk=>hk) trivial (Below.refl _ _) (Nat.le_refl _) (by simp) ?_;(case hd=>rfl);(case hg=>rfl);(case hr=>first|(go_simp;done)|(go_simp;rfl));(case hp=>exact(dm.one (show Kd.M (Kd.int .u8) _ _ _ ((wrap64 (48+(Int.tmod a0 10)))%256) [.int .u8 ((wrap64 (48+(Int.tmod a0 10)))%256)]from rfl) (dm.none _ _)))
       intro Xo D5 a0G hb nE fM
       clear nE fM
       (first|rw[←Va.out]at a0G|(simp only[Int.reduceToNat]at a0G;rw[←Va.out]at a0G))
       have uR:=ah.mk (Kd.R_lower a0G (aJ (zb HB)))
       replace HB:=ah.mk (ai (zb HB) hb)
       clear hb a0G
       refine hK.out _ _ trivial (fun hHeld=>?_)
       clear hK K
       refine nm ?_
       refine ady (i:=2) (j:=8) (Ni:=some 20) (Nj:=some 26) #[true,true,true,true,true,true,true,true,false,false,false] #[true,true,false,true,true,true,true,true,true,false,false] rfl rfl rfl rfl (QB HT_.out (by kernel_rfl)) (by decide) (by decide) (fun K hK=>?_) (fun K hK=>?_)
       ·skip
        refine gs Tryz.func87 #[.int .i64 (wrap64 (Int.tdiv a0 10))] ?_
        with_reducible refine(ih k (by omega) (wrap64 (Int.tdiv a0 10)) BB _ A11.out).mono ?_
        rintro e w16 ⟨rfl,hb⟩
        refine⟨_,rfl,?_⟩
        replace uR:=ah.mk (Kd.R_below (zr uR) hb)
        replace HB:=ah.mk (ai (zb HB) hb)
        (try clear hb)
        refine hK.out _ _ trivial (fun hHeld=>?_)
        clear hK K
        refine nm ?_
        refine fV (i:=8) (N:=some 26) (bm 11 511) rfl rfl (bL HT_.out (by kernel_rfl)) (by decide) (fun K hK=>?_)
        have a0F:=lN (P:=Tryz.prog) Tryz.underlying22 Tryz.underlying5 Tryz.underlying9 (Kd.own_of_R uR.out)
        refine Qj (w1:=?_) (v:=?_) (by rfl) rfl ?_ ?_
        rotate_left 2
        ·go_simp
         constructor
         ·rfl
         ·rfl
        clear a0F
        refine hK.out _ _ trivial (fun hHeld=>?_)
        clear hK K
        refine nm ?_
        exact yT (by simp only[rY,Act.put,s1,s2,s3]) (hCont (Xo) _ ⟨(zr uR),(zb HB)⟩)
       ·skip
        have al5:=lN (P:=Tryz.prog) Tryz.underlying22 Tryz.underlying5 Tryz.underlying9 (Kd.own_of_R uR.out)
        refine Qj (w1:=?_) (v:=?_) (by rfl) rfl ?_ ?_
        rotate_left 2
        ·go_simp
         constructor
         ·rfl
         ·rfl
        clear al5
        refine hK.out _ _ trivial (fun hHeld=>?_)
        clear hK K
        refine nm ?_
        refine fV (i:=2) (N:=some 20) (bm 11 511) rfl rfl (bL HT_.out (by kernel_rfl)) (by decide) (fun K hK=>?_)
        refine gs Tryz.func87 #[.int .i64 (wrap64 (Int.tdiv a0 10))] ?_
        with_reducible refine(ih k (by omega) (wrap64 (Int.tdiv a0 10)) BB _ A11.out).mono ?_
        rintro e w17 ⟨rfl,hb⟩
        refine⟨_,rfl,?_⟩
        replace uR:=ah.mk (Kd.R_below (zr uR) hb)
        replace HB:=ah.mk (ai (zb HB) hb)
        (try clear hb)
        refine hK.out _ _ trivial (fun hHeld=>?_)
        clear hK K
        refine nm ?_
        exact yT (by simp only[rY,Act.put,s1,s2,s3]) (hCont (Xo) _ ⟨(zr uR),(zb HB)⟩)
     rintro Xo UG ⟨h0_,h1_⟩
     have sV:ah (Kd.R (Kd.int .u8) 5 UG w.heap.size (fun _=>True) Xo D6):=⟨h0_⟩
     have sW:ah (Below w.heap.size w UG):=⟨h1_⟩
     clear HB
     clear h0_ h1_
     have uR:=sV
     have HB:=sW
     clear sV sW
     have hHeld:=trivial
     refine yT (a':=?_) ?_ ?_
     rotate_left
     ·simp only[rY,Act.put,s1,s2,s3]
      rfl
     refine pu 9 (some 27) (bm 11 1023) rfl rfl ?_
     refine pu 10 (some 2) (bm 11 2047) rfl rfl ?_
     refine fw (dM HT_.out (by kernel_rfl)) ?_
     try go_wp2
     go_ret
     exact⟨ze,zb HB⟩
    ·skip
     exact absurd H (by simp)
def vI.f(a0:Int):Option (Int×Int×(List (bg))×ByteArray×Bool×Bool×Int×(List (bg))×ByteArray×Bool×Int×Int):=some (a0,1,(([]:List (bg))),(⟨#[]⟩:ByteArray),false,false,0,(([]:List (bg))),(⟨#[]⟩:ByteArray),false,8,8)
theorem vI.calls(a0:Int)(r1:Int)(r2:Int)(r3:List (bg))(r4:ByteArray)(r5:Bool)(r6:Bool)(r7:Int)(r8:List (bg))(r9:ByteArray)(Yo:Bool)(Yp:Int)(Yq:Int)(w:World)(h:vI.f a0=some (r1,r2,r3,r4,r5,r6,r7,r8,r9,Yo,Yp,Yq)):
 Calls Tryz.prog 88 #[.int .i64 a0] w fun e w'=>∃v2_ v7_:Value,e= .returned (.agg #[.int .i64 r1,.int .i64 r2,v2_,.string r4,.bool r5,.bool r6,.int .i64 r7,v7_,.string r9,.bool Yo,.int .i64 Yp,.int .i64 Yq])∧Kd.R iF 89 w' w.heap.size (fun k_=>some k_≠(v7_:Value).ownBlock) v2_ r3∧Kd.R iF 89 w' w.heap.size (fun k_=>some k_≠(v2_:Value).ownBlock) v7_ r8∧Below w.heap.size w w':=by
 have adN:=Tryz.underlying39
 have a3K:=Tryz.underlying28
 have HB:=ah.mk (Below.refl w.heap.size w)
 have H:(some (a0,1,(([]:List (bg))),(⟨#[]⟩:ByteArray),false,false,0,(([]:List (bg))),(⟨#[]⟩:ByteArray),false,8,8))=some (r1,r2,r3,r4,r5,r6,r7,r8,r9,Yo,Yp,Yq):=h
 clear h
 obtain⟨aeW,MS⟩:∃y_:List (bg),y_=(([]:List (bg))):=⟨_,rfl⟩
 replace H:(some (a0,1,aeW,(⟨#[]⟩:ByteArray),false,false,0,(([]:List (bg))),(⟨#[]⟩:ByteArray),false,8,8))=some (r1,r2,r3,r4,r5,r6,r7,r8,r9,Yo,Yp,Yq):=by first|(rw[MS];with_reducible exact H)|(have fF:=(Option.bind_some _ _).symm.trans H;rw[MS];with_reducible exact fF)|(have fF:=(Option.bind_some _ _).symm.trans H;with_reducible exact fF)|with_reducible exact H|(rw[MS];exact H)|exact H
 have abv:=ah.mk MS
 clear MS
 obtain⟨al8,MU⟩:∃y_:List (bg),y_=(([]:List (bg))):=⟨_,rfl⟩
 replace H:(some (a0,1,aeW,(⟨#[]⟩:ByteArray),false,false,0,al8,(⟨#[]⟩:ByteArray),false,8,8))=some (r1,r2,r3,r4,r5,r6,r7,r8,r9,Yo,Yp,Yq):=by first|(rw[MU];with_reducible exact H)|(have fF:=(Option.bind_some _ _).symm.trans H;rw[MU];with_reducible exact fF)|(have fF:=(Option.bind_some _ _).symm.trans H;with_reducible exact fF)|with_reducible exact H|(rw[MU];exact H)|exact H
 have abw:=ah.mk MU
 clear MU
 simp only[Option.some.injEq,Prod.mk.injEq]at H
 obtain⟨rfl,rfl,rfl,rfl,rfl,rfl,rfl,rfl,rfl,rfl,rfl,rfl⟩:=H
 go_enter Tryz.func88,Tryz.ntmps88
 go_wp2_with (first|((with_reducible refine gd 2 rfl ?_);refine bx (N:=2) (cs:=#[.int .i64 0,.int .i64 0,.slice none 0 0,.string (⟨#[]⟩:ByteArray),.bool false,.bool false,.int .i64 0,.slice none 0 0,.string (⟨#[]⟩:ByteArray),.bool false,.int .i64 0,.int .i64 0]) (t:=39) ?_;intro al9 hg w2 hbox hb;have Cw:=ah.mk (hbox);have ala:=gw HB hg;have aKS:=ala;replace HB:=ah.mk (ai (zb HB) hb);clear hb hbox hg)|((with_reducible refine gd 4 rfl ?_);refine Kd.R_lit iF _ 89 ?hg (N:=4) ?hd (xs:=([]:List (bg))) (inner:=[]) (ok:=fun _=>True) (okp:=fun _=>True) ?hr ?hp (fun _ hk=>hk) trivial (Below.refl _ _) (Nat.le_refl _) (by simp) ?_;(case hd=>rfl);(case hg=>rfl);(case hr=>first|(go_simp;done)|(go_simp;rfl));(case hp=>exact(dm.none _ _));intro aPr w3 MK hb nE fM;clear nE fM;(first|rw[←abv.out]at MK|(simp only[Int.reduceToNat]at MK;rw[←abv.out]at MK));have MV:=ah.mk (Kd.R_lower MK (aJ (zb HB)));replace Cw:=kb Cw hb;replace HB:=ah.mk (ai (zb HB) hb);clear hb MK)|((with_reducible refine gd 5 rfl ?_);refine Kd.R_lit iF _ 89 ?hg (N:=5) ?hd (xs:=([]:List (bg))) (inner:=[]) (ok:=fun _=>True) (okp:=fun _=>True) ?hr ?hp (fun _ hk=>hk) trivial (Below.refl _ _) (Nat.le_refl _) (by simp) ?_;(case hd=>rfl);(case hg=>rfl);(case hr=>first|(go_simp;done)|(go_simp;rfl));(case hp=>exact(dm.none _ _));intro aPs w5 M4 hb nE fM;clear nE fM;(first|rw[←abw.out]at M4|(simp only[Int.reduceToNat]at M4;rw[←abw.out]at M4));have abx:=ah.mk (Kd.R_lower (Kd.R_new' M4 (Kd.R_lt (zr MV))) (aJ (zb HB)));replace MV:=ah.mk (Kd.R_elder' (zr MV) (Kd.R_base M4) hb);replace Cw:=kb Cw hb;replace HB:=ah.mk (ai (zb HB) hb);clear hb M4;obtain⟨Ao7,co7,eo7⟩:=Kd.R_slice abx.out;subst eo7;obtain⟨Ao8,co8,eo8⟩:=Kd.R_slice MV.out;subst eo8;obtain⟨yj,yo,Bv,ZR,aeJ,aeK,aeL,aeM,aeN,aeO,a8l,atI,yt,yu,Bw,ZT,aeP,aeQ,aeR,aeS,aeT,aeU,a8m,atJ⟩:=c12 Cw))
 refine bodyPost_ret (results_cell_row rfl _ _ al9 39 #[.int .i64 a0,.int .i64 1,.slice Ao8 aeW.length co8,.string (⟨#[]⟩:ByteArray),.bool false,.bool false,.int .i64 0,.slice Ao7 al8.length co7,.string (⟨#[]⟩:ByteArray),.bool false,.int .i64 8,.int .i64 8] (0,0) _ rfl (zp Cw) Tryz.underlying39 rfl (by kernel_rfl)) rfl ?_
 exact⟨_,_,ze,(Kd.R_mono (qb (Kd.R_types MV.out Cw.out (by decide))) (fun _ hk=>hk.1.2)),(Kd.R_mono (qb (Kd.R_types abx.out Cw.out (by decide))) (fun _ hk=>hk.1.2)),zb HB⟩
def nL.f(l0:List (bg)):Option ((List (bg))):=(some (([]:List (bg)):List (bg))).bind fun Gp=>(if Gp.length+l0.length<3518437208883 then(some (Gp++l0))else(none))
theorem nL.calls(A0:Option Addr)(c0:Nat)(l0:List (bg))(r:List (bg))(w:World)(hr0:Kd.C iF w A0 l0.length l0)(hc0:l0.length≤c0)(h:nL.f l0=some r):
 Calls Tryz.prog 50 #[.slice A0 l0.length c0] w fun e w'=>∃vk:Value,e= .returned (vk)∧Kd.R iF 89 w' w.heap.size (fun _=>True) vk r∧Below w.heap.size w w':=by
 have Gd:=ah.mk hr0
 have HC0:=ah.mk hc0
 clear hr0 hc0
 have HB:=ah.mk (Below.refl w.heap.size w)
 have H:((some (([]:List (bg)):List (bg))).bind fun Gp=>(if Gp.length+l0.length<3518437208883 then(some (Gp++l0))else(none)))=some r:=h
 clear h
 obtain⟨Gp,MW⟩:∃y_:List (bg),y_=(([]:List (bg))):=⟨_,rfl⟩
 replace H:(if Gp.length+l0.length<3518437208883 then(some (Gp++l0))else(none))=some r:=by first|(rw[MW];with_reducible exact H)|(have fF:=(Option.bind_some _ _).symm.trans H;rw[MW];with_reducible exact fF)|(have fF:=(Option.bind_some _ _).symm.trans H;with_reducible exact fF)|with_reducible exact H|(rw[MW];exact H)|exact H
 have aby:=ah.mk MW
 clear MW
 replace H:=sp H
 rcases H with⟨c2,H⟩|⟨c2,H⟩
 ·skip
  have aeX:=ah.mk c2
  clear c2
  obtain⟨aBN,MX⟩:∃y_:List (bg),y_=(Gp++l0):=⟨_,rfl⟩
  replace H:(some aBN)=some r:=by first|(rw[MX];with_reducible exact H)|(have fF:=(Option.bind_some _ _).symm.trans H;rw[MX];with_reducible exact fF)|(have fF:=(Option.bind_some _ _).symm.trans H;with_reducible exact fF)|with_reducible exact H|(rw[MX];exact H)|exact H
  have alb:=ah.mk MX
  clear MX
  obtain rfl:=Option.some.inj H
  go_enter Tryz.func50,Tryz.ntmps50
  go_wp2_with (first|((with_reducible refine gd 3 rfl ?_);refine Kd.R_lit iF _ 89 ?hg (N:=3) ?hd (xs:=([]:List (bg))) (inner:=[]) (ok:=fun _=>True) (okp:=fun _=>True) ?hr ?hp (fun _ hk=>hk) trivial (Below.refl _ _) (Nat.le_refl _) (by simp) ?_;(case hd=>rfl);(case hg=>rfl);(case hr=>first|(go_simp;done)|(go_simp;rfl));(case hp=>exact(dm.none _ _));intro aBO w3 MK hb nE fM;clear nE fM;(first|rw[←aby.out]at MK|(simp only[Int.reduceToNat]at MK;rw[←aby.out]at MK));have abz:=ah.mk (Kd.R_lower MK (aJ (zb HB)));replace HB:=ah.mk (ai (zb HB) hb);clear hb MK)|((with_reducible refine kS (b:=.append) (xs:=#[.tmp 3,.tmp 4]) rfl ?_);at_builtin;refine Kd.R_append_rows iF (w0:=w) w.heap.size rfl (.tmp 3) (.tmp 4) 23 89 (.agg #[(.string ⟨#[]⟩),(.string ⟨#[]⟩),(.bool false)]) 40 rfl Tryz.underlying23 yh rfl (by decide) (by omega) aBO Gp l0 _ _ _ (fun _=>True) (fun _=>False) rfl rfl ?aO ?aR (fun _ _ h=>h) (fun _ h=>h.elim) ?aF ?aB ?aS ?aL ?_;(case aR=>exact zc (Kd.C_below Gd.out HB.out));(case aB=>exact(zb HB));(case aF=>exact(fun _ _=>trivial));(case aO=>exact(zr abz));(case aS=>exact(aJ (zb HB)));(case aL=>have:=aeX.out;omega);intro aPz w5 ho hb hg hat;rw[←alb.out]at ho;replace HB:=ah.mk (hb);have alc:=ah.mk (ho);clear abz;clear ho hb hg hat))
  go_ret
  exact⟨_,ze,zq (alc.out),zb HB⟩
 ·skip
  exact absurd H (by simp)
def bP.f(a0:Int):Option (ByteArray):=some (strOfNums (([(a0)%256]:List Int)))
theorem bP.calls(a0:Int)(r:ByteArray)(w:World)(h:bP.f a0=some r):
 Calls Tryz.prog 59 #[.int .i64 a0] w fun e w'=>e= .returned (.string r)∧Below w.heap.size w w':=by
 have HB:=ah.mk (Below.refl w.heap.size w)
 have H:(some (strOfNums (([(a0)%256]:List Int))))=some r:=h
 clear h
 obtain⟨aBP,MZ⟩:∃y_:List Int,y_=(([(a0)%256]:List Int)):=⟨_,rfl⟩
 replace H:(some (strOfNums aBP))=some r:=by first|(rw[MZ];with_reducible exact H)|(have fF:=(Option.bind_some _ _).symm.trans H;rw[MZ];with_reducible exact fF)|(have fF:=(Option.bind_some _ _).symm.trans H;with_reducible exact fF)|with_reducible exact H|(rw[MZ];exact H)|exact H
 have abA:=ah.mk MZ
 clear MZ
 obtain rfl:=Option.some.inj H
 go_enter Tryz.func59,Tryz.ntmps59
 go_wp2_with (first|((with_reducible refine gd 5 rfl ?_);refine Kd.R_lit (Kd.int .u8) _ 5 ?hg (N:=5) ?hd (xs:=([(a0)%256]:List Int)) (inner:=[.int .u8 ((a0)%256)]) (ok:=fun _=>True) (okp:=fun _=>True) ?hr ?hp (fun _ hk=>hk) trivial (Below.refl _ _) (Nat.le_refl _) (by simp) ?_;(case hd=>rfl);(case hg=>rfl);(case hr=>first|(go_simp;done)|(go_simp;rfl));(case hp=>exact(dm.one (show Kd.M (Kd.int .u8) _ _ _ ((a0)%256) [.int .u8 ((a0)%256)]from rfl) (dm.none _ _)));intro aPA w2 ho3 hb nE fM;clear nE fM;(first|rw[←abA.out]at ho3|(simp only[Int.reduceToNat]at ho3;rw[←abA.out]at ho3));have ald:=ah.mk (Kd.R_lower ho3 (aJ (zb HB)));replace HB:=ah.mk (ai (zb HB) hb);clear hb ho3;have aPB:=lN (P:=Tryz.prog) Tryz.underlying22 Tryz.underlying5 Tryz.underlying9 (Kd.own_of_R ald.out)))
 go_ret
 exact⟨ze,zb HB⟩
def bM.j0:Nat→Int→Int→Bool→Int→ByteArray→Option (ByteArray)
 |0,_,_,_,_,_=>none
 |k+1,x3,a8n,atK,a8o,K4=>(bP.f (K4.size:Int)).bind fun Aa=>((bP.f a8n).bind fun Ab=>(if Aa.size+Ab.size≤9223372036854775807 then((bP.f x3).bind fun D7=>(if(Aa++Ab).size+D7.size≤9223372036854775807 then((bP.f a8o).bind fun K5=>(if((Aa++Ab)++D7).size+K5.size≤9223372036854775807 then(if(((Aa++Ab)++D7)++K5).size+K4.size≤9223372036854775807 then(some ((((Aa++Ab)++D7)++K5)++K4))else(none))else(none)))else(none)))else(none)))
def bM.f(k:Nat)(aV:Int)(aA:Bool)(dN:Int)(cB:ByteArray):Option (ByteArray):=if aA=true then(bM.j0 k 1 aV aA dN cB)else(bM.j0 k 0 aV aA dN cB)
theorem bM.mono_l:∀k,(∀y0 y1 y2 y3 y4,gV (bM.j0 k y0 y1 y2 y3 y4) (bM.j0 (k+1) y0 y1 y2 y3 y4))
 |0=>fun _ _ _ _ _ r h=>by simp[bM.j0]at h
 |k+1=>by
  have ng:=bM.mono_l k
  ·intro y0 y1 y2 y3 y4
   unfold bM.j0
   exact zm
theorem bM.mono:∀a0 a1 a2 a3 k,gV (bM.f k a0 a1 a2 a3) (bM.f (k+1) a0 a1 a2 a3):=by
 intro a0 a1 a2 a3 k
 have ng:=bM.mono_l k
 unfold bM.f
 exact zm
def bM.T4:Bool×List (List Nat×List Nat):=(true,[([],[]),([0],[0]),([1],[1]),([2],[2]),([],[]),([4],[4]),([5,3],[5]),([3,6],[3,6]),([],[]),([8,6],[8]),([7,9],[7,9]),([],[]),([11],[11]),([12,9],[12]),([10,13],[10,13]),([],[]),([15],[15]),([14,16],[14,16]),([17,13,0,1,2,3,4,5,6,7,8,9,10,11,12,13,14,15,16,17],[17])])
def bM.B4:List Nat:=[0,1,3,7,0,16,63,127,0,383,1023,0,2048,7039,16383,0,32768,131071,262143]
theorem bM.tab4:jm .any (opsOf Tryz.f93 4)=bM.T4:=by kernel_rfl
theorem bM.bits4:fQ bM.T4.2 bM.B4=true:=by kernel_rfl
theorem bM.calls(k:Nat)(aV:Int)(aA:Bool)(dN:Int)(cB:ByteArray)(r:ByteArray)(w:World)(h:bM.f k aV aA dN cB=some r):
 Calls Tryz.prog 93 #[.agg #[.int .i64 aV,.bool aA,.int .i64 dN,.string cB]] w fun e w'=>e= .returned (.string r)∧Below w.heap.size w w':=by
 have a6R:=Tryz.underlying42
 have HB:=ah.mk (Below.refl w.heap.size w)
 have H:(if aA=true then(bM.j0 k 1 aV aA dN cB)else(bM.j0 k 0 aV aA dN cB))=some r:=h
 clear h
 have HC2:=ah.mk H
 clear H
 go_enter Tryz.func93,Tryz.ntmps93
 go_upto_if 5 with(first|((with_reducible refine gd 1 rfl ?_);refine bx (N:=1) (cs:=#[.int .i64 aV,.bool aA,.int .i64 dN,.string cB]) (t:=42) ?_;intro ale hg w3 hbox hb;have nG:=ah.mk (hbox);have alf:=gw HB hg;have aKT:=alf;replace HB:=ah.mk (ai (zb HB) hb);clear hb hbox hg;obtain⟨um,uo,yw,Bz,yx,uq,yA,BA⟩:=c4 nG))
 (try simp only[Act.put,s1,s2,s3])
 go_cut [3] (fun v3 wc=>∃(kq:Nat)(cO:Int),v3= .int .i64 cO∧ah (bM.j0 kq cO aV aA dN cB=some r)∧ah (kq≤k)∧ah (wc.heap[ale]?=some (.cells #[.int .i64 aV,.bool aA,.int .i64 dN,.string cB] 42 (0,0)))∧ah (Below w.heap.size w wc))
 case first=>
  have H:=HC2.out
  clear HC2
  by_cases c5:aA=true
  ·subst c5
   rw[if_pos rfl]at H
   have H':=ah.mk H
   clear H
   go_wp2
   go_meet
   case rel=>exact⟨_,(1),zs,H',⟨by first|omega|exact Nat.le_refl _⟩,⟨by exact zk nG⟩,⟨zb HB⟩⟩
  ·replace c5:=Bool.eq_false_iff.mpr c5
   subst c5
   rw[if_neg (show ¬(false=true) by decide)]at H
   have H':=ah.mk H
   clear H
   go_wp2
   go_meet
   case rel=>exact⟨_,(0),zs,H',⟨by first|omega|exact Nat.le_refl _⟩,⟨by exact zk nG⟩,⟨zb HB⟩⟩
 case rest=>
  clear HC2
  try clear p2
  try clear c5
  try clear um
  try clear uo
  try clear yw
  try clear Bz
  try clear yx
  try clear uq
  try clear yA
  try clear BA
  obtain⟨kq,cO,rfl,HA,HJ1,nG,HB⟩:=hcut
  cases kq with
  |zero=>exact absurd HA.out (by simp[bM.j0])
  |succ kj1=>
   have H:=HA.out
   clear HA
   simp only[bM.j0]at H
   obtain⟨Aa,A6,H⟩:=ob H
   (try dsimp only at H)
   obtain⟨Ab,A7,H⟩:=ob H
   (try dsimp only at H)
   replace H:=sp H
   rcases H with⟨c8,H⟩|⟨c8,H⟩
   ·skip
    have c8b0:=eq_true c8
    have c8b1:=decide_eq_true c8
    try have c8b2:(9223372036854775807<Aa.size+Ab.size)=False:=eq_false (Nat.not_lt.2 c8)
    obtain⟨D7,A9,H⟩:=ob H
    (try dsimp only at H)
    by_cases c10:(Aa++Ab).size+D7.size≤9223372036854775807
    ·rw[if_pos c10]at H
     have c10b0:=eq_true c10
     have c10b1:=decide_eq_true c10
     try have c10b2:(9223372036854775807<(Aa++Ab).size+D7.size)=False:=eq_false (Nat.not_lt.2 c10)
     try(have c10b3:=c10b2;rw[ByteArray.size_append]at c10b3)
     obtain⟨K5,A11,H⟩:=ob H
     (try dsimp only at H)
     by_cases c12:((Aa++Ab)++D7).size+K5.size≤9223372036854775807
     ·rw[if_pos c12]at H
      have c12b0:=eq_true c12
      have c12b1:=decide_eq_true c12
      try have c12b2:(9223372036854775807<((Aa++Ab)++D7).size+K5.size)=False:=eq_false (Nat.not_lt.2 c12)
      try(have c12b3:=c12b2;simp only[ByteArray.size_append]at c12b3)
      by_cases c13:(((Aa++Ab)++D7)++K5).size+cB.size≤9223372036854775807
      ·rw[if_pos c13]at H
       have c13b0:=eq_true c13
       have c13b1:=decide_eq_true c13
       try have c13b2:(9223372036854775807<(((Aa++Ab)++D7)++K5).size+cB.size)=False:=eq_false (Nat.not_lt.2 c13)
       try(have c13b3:=c13b2;simp only[ByteArray.size_append]at c13b3)
       obtain rfl:=Option.some.inj H
       try go_wp2
       replace nG:=ah.mk (dn nG.out)
       replace HB:=ah.mk (dG HB.out)
       refine st 19 (b4 nG) (fun hHeld=>?_);refine bR bM.tab4 bM.bits4 (fun HT_ HW_=>?_)
       generalize wc.drew=D5 at nG HB hHeld ⊢
       refine pu 0 (some 6) (bm 19 1) rfl rfl ?_
       refine pu 4 (some 10) (bm 19 17) rfl rfl ?_
       refine pu 8 (some 14) (bm 19 273) rfl rfl ?_
       refine pu 11 (some 17) (bm 19 2321) rfl rfl ?_
       refine pu 15 (some 21) (bm 19 35089) rfl rfl ?_
       refine tk 1 (some 7) (bm 19 35091) rfl rfl hHeld ?_
       refine pu 2 (some 8) (bm 19 35095) rfl rfl ?_
       refine tk 5 (some 11) (bm 19 35127) rfl rfl hHeld ?_
       refine tk 12 (some 18) (bm 19 39223) rfl rfl hHeld ?_
       refine tk 16 (some 22) (bm 19 104759) rfl rfl hHeld ?_
       refine fV (i:=3) (N:=some 9) (bm 19 104767) rfl rfl (bL HT_.out (by kernel_rfl)) (by decide) (fun K hK=>?_)
       refine gs Tryz.func59 #[.int .i64 (cB.size:Int)] ?_
       with_reducible refine(bP.calls (cB.size:Int) Aa _ A6.out).mono ?_
       rintro e w15 ⟨rfl,hb⟩
       refine⟨_,rfl,?_⟩
       replace nG:=kb nG hb
       replace HB:=ah.mk (ai (zb HB) hb)
       (try clear hb)
       refine hK.out _ _ (b4 nG) (fun hHeld=>?_)
       clear hK K
       refine nm ?_
       refine fV (i:=6) (N:=some 12) (bm 19 104831) rfl rfl (bL HT_.out (by kernel_rfl)) (by decide) (fun K hK=>?_)
       refine gs Tryz.func59 #[.int .i64 aV] ?_
       with_reducible refine(bP.calls aV Ab _ A7.out).mono ?_
       rintro e w16 ⟨rfl,hb⟩
       refine⟨_,rfl,?_⟩
       replace nG:=kb nG hb
       replace HB:=ah.mk (ai (zb HB) hb)
       (try clear hb)
       refine hK.out _ _ (b4 nG) (fun hHeld=>?_)
       clear hK K
       refine nm ?_
       refine pu 7 (some 13) (bm 19 104959) rfl rfl ?_
       refine fV (i:=9) (N:=some 15) (bm 19 105471) rfl rfl (bL HT_.out (by kernel_rfl)) (by decide) (fun K hK=>?_)
       refine gs Tryz.func59 #[.int .i64 cO] ?_
       with_reducible refine(bP.calls cO D7 _ A9.out).mono ?_
       rintro e w17 ⟨rfl,hb⟩
       refine⟨_,rfl,?_⟩
       replace nG:=kb nG hb
       replace HB:=ah.mk (ai (zb HB) hb)
       (try clear hb)
       refine hK.out _ _ (b4 nG) (fun hHeld=>?_)
       clear hK K
       refine nm ?_
       refine pu 10 (some 16) (bm 19 106495) rfl rfl ?_
       refine fV (i:=13) (N:=some 19) (bm 19 114687) rfl rfl (bL HT_.out (by kernel_rfl)) (by decide) (fun K hK=>?_)
       refine gs Tryz.func59 #[.int .i64 dN] ?_
       with_reducible refine(bP.calls dN K5 _ A11.out).mono ?_
       rintro e UG ⟨rfl,hb⟩
       refine⟨_,rfl,?_⟩
       replace nG:=kb nG hb
       replace HB:=ah.mk (ai (zb HB) hb)
       (try clear hb)
       refine hK.out _ _ (b4 nG) (fun hHeld=>?_)
       clear hK K
       refine nm ?_
       refine pu 14 (some 20) (bm 19 131071) rfl rfl ?_
       refine pu 17 (some 23) (bm 19 262143) rfl rfl ?_
       refine pu 18 (some 2) (bm 19 524287) rfl rfl ?_
       refine fw (dM HT_.out (by kernel_rfl)) ?_
       try go_wp2
       go_ret
       exact⟨ze,zb HB⟩
      ·rw[if_neg c13]at H
       exact absurd H (by simp)
     ·rw[if_neg c12]at H
      exact absurd H (by simp)
    ·rw[if_neg c10]at H
     exact absurd H (by simp)
   ·skip
    exact absurd H (by simp)
def dI.l0:Nat→List (bg)→List (bg)→Int→Option ((List (bg))×Int)
 |0,_,_,_=>none
 |k+1,x3,a8p,K6=>(dx.f k x3).bind fun a0I=>(if a0I>K6 then(if 0≤(wrap64 ((x3.length:Int)-1))then(if(wrap64 ((x3.length:Int)-1))≤(x3.length:Int)then(dI.l0 k (x3.take ((wrap64 ((x3.length:Int)-1)):Int).toNat) a8p K6)else(none))else(none))else(some (x3,K6)))
def dI.f(k:Nat)(aH:List (bg))(aA:Int):Option ((List (bg))×Int):=(some (([]:List (bg)):List (bg))).bind fun Gq=>(if Gq.length+aH.length<3518437208883 then(dI.l0 k (Gq++aH) aH aA)else(none))
theorem dI.mono_l:∀k,(∀y0 y1 y2,gV (dI.l0 k y0 y1 y2) (dI.l0 (k+1) y0 y1 y2))
 |0=>fun _ _ _ r h=>by simp[dI.l0]at h
 |k+1=>by
  have ng:=dI.mono_l k
  ·intro y0 y1 y2
   unfold dI.l0
   have m0:=@dx.mono
   exact zm
theorem dI.mono:∀a0 a1 k,gV (dI.f k a0 a1) (dI.f (k+1) a0 a1):=by
 intro a0 a1 k
 have ng:=dI.mono_l k
 unfold dI.f
 have m0:=@dx.mono
 exact zm
theorem dI.calls(k:Nat)(iW:Option Addr)(iX:Nat)(aH:List (bg))(aA:Int)(r1:List (bg))(r2:Int)(w:World)(kM:Kd.C iF w iW aH.length aH)(kN:aH.length≤iX)(h:dI.f k aH aA=some (r1,r2)):
 Calls Tryz.prog 84 #[.agg #[.slice iW aH.length iX,.int .i64 aA]] w fun e w'=>∃vk:Value,e= .returned (.agg #[vk,.int .i64 r2])∧Kd.R iF 89 w' w.heap.size (fun _=>True) vk r1∧Below w.heap.size w w':=by
 have zB:=Tryz.underlying25
 have lF:=ah.mk kM
 have oZ:=ah.mk kN
 clear kM kN
 have HB:=ah.mk (Below.refl w.heap.size w)
 have H:((some (([]:List (bg)):List (bg))).bind fun Gq=>(if Gq.length+aH.length<3518437208883 then(dI.l0 k (Gq++aH) aH aA)else(none)))=some (r1,r2):=h
 clear h
 obtain⟨Gq,N7⟩:∃y_:List (bg),y_=(([]:List (bg))):=⟨_,rfl⟩
 replace H:(if Gq.length+aH.length<3518437208883 then(dI.l0 k (Gq++aH) aH aA)else(none))=some (r1,r2):=by first|(rw[N7];with_reducible exact H)|(have fF:=(Option.bind_some _ _).symm.trans H;rw[N7];with_reducible exact fF)|(have fF:=(Option.bind_some _ _).symm.trans H;with_reducible exact fF)|with_reducible exact H|(rw[N7];exact H)|exact H
 have abB:=ah.mk N7
 clear N7
 replace H:=sp H
 rcases H with⟨c2,H⟩|⟨c2,H⟩
 ·skip
  have aeX:=ah.mk c2
  clear c2
  obtain⟨alg,N8⟩:∃y_:List (bg),y_=(Gq++aH):=⟨_,rfl⟩
  replace H:(dI.l0 k alg aH aA)=some (r1,r2):=by first|(rw[N8];with_reducible exact H)|(have fF:=(Option.bind_some _ _).symm.trans H;rw[N8];with_reducible exact fF)|(have fF:=(Option.bind_some _ _).symm.trans H;with_reducible exact fF)|with_reducible exact H|(rw[N8];exact H)|exact H
  have alh:=ah.mk N8
  clear N8
  have H':=ah.mk H
  clear H
  go_enter Tryz.func84,Tryz.ntmps84
  go_wp2_with (first|((with_reducible refine gd 1 rfl ?_);refine bx (N:=1) (cs:=#[.slice iW aH.length iX,.int .i64 aA]) (t:=25) ?_;intro ali hg w3 hbox hb;have kD:=ah.mk (hbox);have alj:=gw HB hg;have aKU:=alj;replace HB:=ah.mk (ai (zb HB) hb);clear hb hbox hg)|((with_reducible refine gd 2 rfl ?_);refine bx (N:=2) (cs:=#[.slice none 0 0,.int .i64 0]) (t:=25) ?_;intro abC hg w4 hbox hb;have mV:=ah.mk (hbox);have alk:=gw HB hg;have aKV:=alk;replace HB:=ah.mk (ai (zb HB) hb);obtain⟨GR,GU⟩:=nb kD hg;replace kD:=kb kD hb;clear hb hbox hg)|((with_reducible refine gd 4 rfl ?_);refine Kd.R_lit iF _ 89 ?hg (N:=4) ?hd (xs:=([]:List (bg))) (inner:=[]) (ok:=fun _=>True) (okp:=fun _=>True) ?hr ?hp (fun _ hk=>hk) trivial (Below.refl _ _) (Nat.le_refl _) (by simp) ?_;(case hd=>rfl);(case hg=>rfl);(case hr=>first|(go_simp;done)|(go_simp;rfl));(case hp=>exact(dm.none _ _));intro aBQ w5 M4 hb nE fM;clear nE fM;(first|rw[←abB.out]at M4|(simp only[Int.reduceToNat]at M4;rw[←abB.out]at M4));have Vb:=ah.mk (Kd.R_lower M4 (aJ (zb HB)));replace kD:=kb kD hb;replace mV:=kb mV hb;replace HB:=ah.mk (ai (zb HB) hb);clear hb M4;have aBR:=GR.out;have aBS:=GU.out;obtain⟨Bq,Br,Bt,Bu⟩:=c2 kD)|((with_reducible refine kS (b:=.append) (xs:=#[.tmp 4,.tmp 6]) rfl ?_);at_builtin;refine Kd.R_append_rows iF (w0:=w) w.heap.size rfl (.tmp 4) (.tmp 6) 23 89 (.agg #[(.string ⟨#[]⟩),(.string ⟨#[]⟩),(.bool false)]) 40 rfl Tryz.underlying23 yh rfl (by decide) (by omega) aBQ Gq aH _ _ _ (fun _=>True) (fun _=>False) rfl rfl ?aO ?aR (fun _ _ h=>h) (fun _ h=>h.elim) ?aF ?aB ?aS ?aL ?_;(case aR=>exact zc (Kd.C_below lF.out HB.out));(case aB=>exact(zb HB));(case aF=>exact(fun _ _=>trivial));(case aO=>exact(zr Vb));(case aS=>exact(aJ (zb HB)));(case aL=>have:=aeX.out;omega);intro aPC w9 ho hb hg hat;rw[←alh.out]at ho;replace kD:=ah.mk (jI (zk kD) hg (Kd.R_ne Vb.out kD.out (by decide)));replace mV:=ah.mk (jI (zk mV) hg (Kd.R_ne Vb.out mV.out (by decide)));replace HB:=ah.mk (hb);have alm:=ah.mk (ho);clear Vb;clear ho hb hg hat))
  go_loopg [3] k (fun kq v3 w'=>∃(cO:List (bg)),ah (dI.l0 kq cO aH aA=some (r1,r2))∧ah (kq≤k)∧ah (Kd.R iF 89 w' w.heap.size (fun _=>True) v3 cO)∧ah (w'.heap[ali]?=some (.cells #[(.slice iW aH.length iX),.int .i64 aA] 25 (0,0)))∧ah (w'.heap[abC]?=some (.cells #[(.slice none 0 0),.int .i64 0] 25 (0,0)))∧ah (Below w.heap.size w w'))
  case atStart=>exact⟨(alg),H',⟨Nat.le_refl _⟩,⟨by exact zr alm⟩,⟨by exact zk kD⟩,⟨by exact zk mV⟩,⟨zb HB⟩⟩
  case round=>
   clear H'
   try clear c2
   try clear p2
   try clear c7
   try clear c8
   try clear Bq
   try clear Br
   try clear Bt
   try clear Bu
   obtain⟨cO,HA,jc,HO_3,kD,mV,HB⟩:=hrel
   cases gk with
   |zero=>exact absurd HA.out (by simp[dI.l0])
   |succ k1=>
    have H:=HA.out
    clear HA
    simp only[dI.l0]at H
    obtain⟨a0I,Qb,H⟩:=ob H
    (try dsimp only at H)
    by_cases c11:a0I>aA
    ·rw[if_pos c11]at H
     have c11b0:=decide_eq_true c11
     clear c11
     obtain⟨EN,Vd⟩:∃j_:Int,(wrap64 ((cO.length:Int)-1))=j_:=⟨_,rfl⟩
     replace H:(if 0≤(EN)then(if(EN)≤(cO.length:Int)then(dI.l0 k1 (cO.take ((EN):Int).toNat) aH aA)else(none))else(none))=some (r1,r2):=by first|(rw[Vd]at H;exact H)|(simp only[Vd]at H ⊢;exact H)
     (try rw[Vd]at Qb)
     have hji12w:(IntKind.i64.wrap ((cO.length:Int)-1))=EN:=(iC _).trans Vd
     by_cases c13:0≤(EN)
     ·rw[if_pos c13]at H
      have c13b0:=eq_true c13
      have c13b1:=decide_eq_true c13
      clear c13
      by_cases c14:(EN)≤(cO.length:Int)
      ·rw[if_pos c14]at H
       have c14b0:=eq_true c14
       have c14b1:=decide_eq_true c14
       clear c14
       obtain⟨aeY,N9⟩:∃y_:List (bg),y_=(cO.take ((EN):Int).toNat):=⟨_,rfl⟩
       replace H:(dI.l0 k1 aeY aH aA)=some (r1,r2):=by first|(rw[N9];with_reducible exact H)|(have fF:=(Option.bind_some _ _).symm.trans H;rw[N9];with_reducible exact fF)|(have fF:=(Option.bind_some _ _).symm.trans H;with_reducible exact fF)|with_reducible exact H|(rw[N9];exact H)|exact H
       have abD:=ah.mk N9
       clear N9
       have H':=ah.mk H
       clear H
       try go_wp2
       replace HO_3:=ah.mk (Kd.R_drew HO_3.out)
       replace kD:=ah.mk (dn kD.out)
       replace mV:=ah.mk (dn mV.out)
       replace HB:=ah.mk (dG HB.out)
       obtain⟨a8q,a8r,a0J⟩:=Kd.R_slice HO_3.out
       (first|subst a0J|(injection a0J with Cx Na Cy;have Nb:=Cx.symm;have Nc:=Cy.symm;clear Cx Na Cy;subst Nb;subst Nc))
       refine st 5 (b2 kD) (fun hHeld=>?_)
       generalize wr.drew=w15 at HO_3 kD mV HB hHeld ⊢
       refine pu 0 (some 8) (bm 5 1) rfl rfl ?_
       refine pu 2 (some 10) (bm 5 5) rfl rfl ?_
       refine tk 3 (some 11) (bm 5 13) rfl rfl hHeld ?_
       refine fV (i:=1) (N:=some 9) (bm 5 15) rfl rfl (by kernel_rfl) (by decide) (fun K hK=>?_)
       refine gs Tryz.func57 #[.slice a8q cO.length a8r] ?_
       with_reducible refine(dx.calls k1 _ _ cO a0I _ ?aN ?aQ Qb.out).mono ?_
       (case aN=>exact zc (Kd.R_reads' HO_3.out).2.2)
       (case aQ=>exact(Kd.R_reads' HO_3.out).2.1)
       rintro e w17 ⟨rfl,hb⟩
       refine⟨_,rfl,?_⟩
       replace HO_3:=ah.mk (Kd.R_below (zr HO_3) hb)
       replace kD:=kb kD hb
       replace mV:=kb mV hb
       replace HB:=ah.mk (ai (zb HB) hb)
       (try clear hb)
       refine hK.out _ _ (b2 kD) (fun hHeld=>?_)
       clear hK K
       refine nm ?_
       refine pu 4 (some 12) (bm 5 31) rfl rfl ?_
       refine fw (by kernel_rfl) ?_
       have q18:((EN):Int)≤((cO.length:Int):Int):=of_decide_eq_true za
       obtain⟨aPD,abE,_,aln,_⟩:=info_parts yh
       have aeZ:=Be (P:=Tryz.prog) 23 89 .i64 Tryz.underlying23 abE a8q cO.length a8r (EN) (of_decide_eq_true za) q18 (Kd.R_reads' HO_3.out).2.1
       have a8s:=Kd.R_take (m:=((EN):Int).toNat) HO_3.out (by omega)
       have alo:aeY.length=((EN):Int).toNat:=(by rw[abD.out,List.length_take];omega)
       rw[←abD.out]at a8s
       rw[←alo]at a8s aeZ
       clear alo abE aln HO_3
       have alp:=ah.mk a8s
       clear a8s
       replace q18:=eq_true q18
       try go_wp2
       go_roundg k1
       case measure=>have:=jc.out;omega
       case rel=>exact⟨(aeY),H',⟨by have:=jc.out;omega⟩,⟨by exact zr alp⟩,⟨by exact zk kD⟩,⟨by exact zk mV⟩,⟨zb HB⟩⟩
      ·rw[if_neg c14]at H
       exact absurd H (by simp)
     ·rw[if_neg c13]at H
      exact absurd H (by simp)
    ·rw[if_neg c11]at H
     have c11b0:=decide_eq_false c11
     clear c11
     simp only[Option.some.injEq,Prod.mk.injEq]at H
     obtain⟨rfl,rfl⟩:=H
     try go_wp2
     replace HO_3:=ah.mk (Kd.R_drew HO_3.out)
     replace kD:=ah.mk (dn kD.out)
     replace mV:=ah.mk (dn mV.out)
     replace HB:=ah.mk (dG HB.out)
     obtain⟨alq,alr,als⟩:=Kd.R_slice HO_3.out
     (first|subst als|(injection als with Cx Na Cy;have Nb:=Cx.symm;have Nc:=Cy.symm;clear Cx Na Cy;subst Nb;subst Nc))
     refine st 5 (b2 kD) (fun hHeld=>?_)
     generalize wr.drew=w19 at HO_3 kD mV HB hHeld ⊢
     refine pu 0 (some 8) (bm 5 1) rfl rfl ?_
     refine pu 2 (some 10) (bm 5 5) rfl rfl ?_
     refine tk 3 (some 11) (bm 5 13) rfl rfl hHeld ?_
     refine fV (i:=1) (N:=some 9) (bm 5 15) rfl rfl (by kernel_rfl) (by decide) (fun K hK=>?_)
     refine gs Tryz.func57 #[.slice alq cO.length alr] ?_
     with_reducible refine(dx.calls k1 _ _ cO a0I _ ?aN ?aQ Qb.out).mono ?_
     (case aN=>exact zc (Kd.R_reads' HO_3.out).2.2)
     (case aQ=>exact(Kd.R_reads' HO_3.out).2.1)
     rintro e w21 ⟨rfl,hb⟩
     refine⟨_,rfl,?_⟩
     replace HO_3:=ah.mk (Kd.R_below (zr HO_3) hb)
     replace kD:=kb kD hb
     replace mV:=kb mV hb
     replace HB:=ah.mk (ai (zb HB) hb)
     (try clear hb)
     refine hK.out _ _ (b2 kD) (fun hHeld=>?_)
     clear hK K
     refine nm ?_
     refine pu 4 (some 12) (bm 5 31) rfl rfl ?_
     refine fw (by kernel_rfl) ?_
     have abF:=GR.out
     have abG:=GU.out
     obtain⟨JN,JO,JP,JQ⟩:=c2 kD
     obtain⟨a8t,a8u,a8v,a8w⟩:=c2 mV
     try go_wp2
     refine bodyPost_ret (results_cell_row rfl _ _ abC 25 #[.slice alq cO.length alr,.int .i64 aA] (0,0) _ rfl (zp mV) Tryz.underlying25 rfl (by kernel_rfl)) rfl ?_
     exact⟨_,ze,(Kd.R_mono (qb (Kd.R_types HO_3.out mV.out (by decide))) (fun _ hk=>trivial)),zb HB⟩
 ·skip
  exact absurd H (by simp)
def dF.l0:Nat→List (bg)→ByteArray→Int→Option (ByteArray×Bool)
 |0,_,_,_=>none
 |k+1,x0,x1,x6=>if x6<(x0.length:Int)then(if 0≤x6 then(if((aT x0 x6).f0).toList=x1.toList then(some ((aT x0 x6).f1,true))else(dF.l0 k x0 x1 (wrap64 (x6+1))))else(none))else(some ((⟨#[]⟩:ByteArray),false))
def dF.f(k:Nat)(l0:List (bg))(a1:ByteArray):Option (ByteArray×Bool):=(bn.f k l0).bind fun a0K=>(if a0K=true then(dF.l0 k l0 a1 0)else(some ((⟨#[]⟩:ByteArray),false)))
theorem dF.mono_l:∀k,(∀y0 y1 y2,gV (dF.l0 k y0 y1 y2) (dF.l0 (k+1) y0 y1 y2))
 |0=>fun _ _ _ r h=>by simp[dF.l0]at h
 |k+1=>by
  have ng:=dF.mono_l k
  ·intro y0 y1 y2
   unfold dF.l0
   have m0:=@bn.mono
   exact zm
theorem dF.mono:∀a0 a1 k,gV (dF.f k a0 a1) (dF.f (k+1) a0 a1):=by
 intro a0 a1 k
 have ng:=dF.mono_l k
 unfold dF.f
 have m0:=@bn.mono
 exact zm
theorem dF.calls(k:Nat)(A0:Option Addr)(c0:Nat)(l0:List (bg))(a1:ByteArray)(r1:ByteArray)(r2:Bool)(w:World)(hr0:Kd.C iF w A0 l0.length l0)(hc0:l0.length≤c0)(h:dF.f k l0 a1=some (r1,r2)):
 Calls Tryz.prog 119 #[.slice A0 l0.length c0,.string a1] w fun e w'=>e= .returned (.tuple #[.string r1,.bool r2])∧Below w.heap.size w w':=by
 have Gd:=ah.mk hr0
 have HC0:=ah.mk hc0
 clear hr0 hc0
 have HB:=ah.mk (Below.refl w.heap.size w)
 have H:((bn.f k l0).bind fun a0K=>(if a0K=true then(dF.l0 k l0 a1 0)else(some ((⟨#[]⟩:ByteArray),false))))=some (r1,r2):=h
 clear h
 obtain⟨a0K,A3,H⟩:=ob H
 (try dsimp only at H)
 by_cases c4:a0K=true
 ·subst c4
  rw[if_pos rfl]at H
  have H':=ah.mk H
  clear H
  go_enter Tryz.func119,Tryz.ntmps119
  go_wp2_with (first|((with_reducible refine gq 54 rfl ?_);refine gl (some 8) Tryz.func54 #[.slice A0 l0.length c0] ?_;(with_reducible refine(bn.calls k _ _ l0 true _ ?aN ?aQ A3.out).mono ?_);(case aN=>exact zc Gd.out);(case aQ=>exact HC0.out);rintro e w5 ⟨rfl,hb⟩;refine⟨_,rfl,?_⟩;replace HB:=ah.mk (ai (zb HB) hb);(try clear hb)))
  go_loopg [6] k (fun kq v6 w'=>∃(iP:Int),v6= .int .i64 iP∧ah (dF.l0 kq l0 a1 iP=some (r1,r2))∧ah (kq≤k)∧ah (Below w.heap.size w w'))
  case atStart=>exact⟨(0),zs,H',⟨Nat.le_refl _⟩,⟨zb HB⟩⟩
  case round=>
   clear H'
   try clear c1
   try clear p2
   try clear c4
   try clear c5
   obtain⟨iP,rfl,HA,jc,HB⟩:=hrel
   cases gk with
   |zero=>exact absurd HA.out (by simp[dF.l0])
   |succ k1=>
    have H:=HA.out
    clear HA
    simp only[dF.l0]at H
    replace H:=sp H
    rcases H with⟨c6,H⟩|⟨c6,H⟩
    ·skip
     have c6b0:=decide_eq_true c6
     clear c6
     by_cases c7:0≤iP
     ·rw[if_pos c7]at H
      have c7b0:=decide_eq_true c7
      clear c7
      by_cases c8:((aT l0 iP).f0).toList=a1.toList
      ·rw[if_pos c8]at H
       have c8b0:(((aT l0 iP).f0).toList==a1.toList)=true:=beq_iff_eq.mpr c8
       have c8b1:(((aT l0 iP).f0).toList != a1.toList)=false:=bne_eq_false_iff_eq.mpr c8
       clear c8
       simp only[Option.some.injEq,Prod.mk.injEq]at H
       obtain⟨rfl,rfl⟩:=H
       have QK:0≤(iP:Int):=of_decide_eq_true za
       have QL:iP<(l0.length:Int):=of_decide_eq_true za
       obtain⟨abH,af0,Ac,Ad,Ae⟩:=eP Gd.out iP QK QL
       cases af0
       replace Ac:=pM Ac HB
       replace Ad:=pM Ad HB
       replace Ae:=pM Ae HB
       replace QK:=eq_true QK
       replace QL:=eq_true QL
       have af2:0≤(iP:Int):=of_decide_eq_true za
       have af3:iP<(l0.length:Int):=of_decide_eq_true za
       obtain⟨alu,aBU,Ve,Vf,Vg⟩:=eP Gd.out iP af2 af3
       obtain rfl:abH=alu:=(by injection aBU)
       replace Ve:=pM Ve HB
       replace Vf:=pM Vf HB
       replace Vg:=pM Vg HB
       replace af2:=eq_true af2
       replace af3:=eq_true af3
       go_wp2
       go_ret2
       exact⟨ze,zb HB⟩
      ·rw[if_neg c8]at H
       have c8b0:(((aT l0 iP).f0).toList==a1.toList)=false:=beq_eq_false_iff_ne.mpr c8
       have c8b1:(((aT l0 iP).f0).toList != a1.toList)=true:=bne_iff_ne.mpr c8
       have H':=ah.mk H
       clear H
       have QK:0≤(iP:Int):=of_decide_eq_true za
       have QL:iP<(l0.length:Int):=of_decide_eq_true za
       obtain⟨abH,af0,Ac,Ad,Ae⟩:=eP Gd.out iP QK QL
       cases af0
       replace Ac:=pM Ac HB
       replace Ad:=pM Ad HB
       replace Ae:=pM Ae HB
       replace QK:=eq_true QK
       replace QL:=eq_true QL
       go_wp2
       go_roundg k1
       case measure=>have:=jc.out;omega
       case rel=>exact⟨(wrap64 (iP+1)),zs,H',⟨by have:=jc.out;omega⟩,⟨zb HB⟩⟩
     ·rw[if_neg c7]at H
      exact absurd H (by simp)
    ·skip
     have c6b0:=decide_eq_false c6
     clear c6
     simp only[Option.some.injEq,Prod.mk.injEq]at H
     obtain⟨rfl,rfl⟩:=H
     go_wp2
     go_ret2
     exact⟨ze,zb HB⟩
 ·replace c4:=Bool.eq_false_iff.mpr c4
  subst c4
  rw[if_neg (show ¬(false=true) by decide)]at H
  simp only[Option.some.injEq,Prod.mk.injEq]at H
  obtain⟨rfl,rfl⟩:=H
  go_enter Tryz.func119,Tryz.ntmps119
  go_wp2_with (first|((with_reducible refine gq 54 rfl ?_);refine gl (some 8) Tryz.func54 #[.slice A0 l0.length c0] ?_;(with_reducible refine(bn.calls k _ _ l0 false _ ?aN ?aQ A3.out).mono ?_);(case aN=>exact zc Gd.out);(case aQ=>exact HC0.out);rintro e w9 ⟨rfl,hb⟩;refine⟨_,rfl,?_⟩;replace HB:=ah.mk (ai (zb HB) hb);(try clear hb)))
  go_ret2
  exact⟨ze,zb HB⟩
def dO.l0:Nat→ByteArray→ByteArray→Int→Option (ByteArray)
 |0,_,_,_=>none
 |k+1,x0,x3,x4=>if x4<(x0.size:Int)then(if 0≤x4 then(if(bt x0 x4)≥97 then(if(bt x0 x4)<122 then((some (([((bt x0 x4)+1)%256]:List Int):List Int)).bind fun Nf=>(if x3.size+(strOfNums Nf).size≤9223372036854775807 then(dO.l0 k x0 (x3++(strOfNums Nf)) (wrap64 (x4+1)))else(none)))else((some (([bt x0 x4]:List Int):List Int)).bind fun Ng=>(if x3.size+(strOfNums Ng).size≤9223372036854775807 then(dO.l0 k x0 (x3++(strOfNums Ng)) (wrap64 (x4+1)))else(none))))else((some (([bt x0 x4]:List Int):List Int)).bind fun Nh=>(if x3.size+(strOfNums Nh).size≤9223372036854775807 then(dO.l0 k x0 (x3++(strOfNums Nh)) (wrap64 (x4+1)))else(none))))else(none))else(some x3)
def dO.f(k:Nat)(a0:ByteArray):Option (ByteArray):=dO.l0 k a0 (⟨#[]⟩:ByteArray) 0
theorem dO.mono_l:∀k,(∀y0 y1 y2,gV (dO.l0 k y0 y1 y2) (dO.l0 (k+1) y0 y1 y2))
 |0=>fun _ _ _ r h=>by simp[dO.l0]at h
 |k+1=>by
  have ng:=dO.mono_l k
  ·intro y0 y1 y2
   unfold dO.l0
   exact zm
theorem dO.mono:∀a0 k,gV (dO.f k a0) (dO.f (k+1) a0):=by
 intro a0 k
 have ng:=dO.mono_l k
 unfold dO.f
 exact zm
theorem dO.calls(k:Nat)(a0:ByteArray)(r:ByteArray)(w:World)(h:dO.f k a0=some r):
 Calls Tryz.prog 122 #[.string a0] w fun e w'=>e= .returned (.string r)∧Below w.heap.size w w':=by
 have HB:=ah.mk (Below.refl w.heap.size w)
 have H:(dO.l0 k a0 (⟨#[]⟩:ByteArray) 0)=some r:=h
 clear h
 have H':=ah.mk H
 clear H
 go_enter Tryz.func122,Tryz.ntmps122
 go_wp2
 go_loopg [3,4] k (fun kq v3 v4 w'=>∃(cO:ByteArray)(eu:Int),v3= .string cO∧v4= .int .i64 eu∧ah (dO.l0 kq a0 cO eu=some r)∧ah (kq≤k)∧ah (Below w.heap.size w w'))
 case atStart=>exact⟨((⟨#[]⟩:ByteArray)),(0),zs,zs,H',⟨Nat.le_refl _⟩,⟨zb HB⟩⟩
 case round=>
  clear H'
  try clear c1
  obtain⟨cO,eu,rfl,rfl,HA,jc,HB⟩:=hrel
  cases gk with
  |zero=>exact absurd HA.out (by simp[dO.l0])
  |succ k1=>
   have H:=HA.out
   clear HA
   simp only[dO.l0]at H
   replace H:=sp H
   rcases H with⟨c2,H⟩|⟨c2,H⟩
   ·skip
    have c2b0:=decide_eq_true c2
    clear c2
    by_cases c3:0≤eu
    ·rw[if_pos c3]at H
     have c3b0:=decide_eq_true c3
     clear c3
     by_cases c5:(bt a0 eu)≥97
     ·rw[if_pos c5]at H
      have c5b0:=decide_eq_true c5
      clear c5
      by_cases c6:(bt a0 eu)<122
      ·rw[if_pos c6]at H
       have c6b0:=decide_eq_true c6
       clear c6
       obtain⟨Nf,Nk⟩:∃y_:List Int,y_=(([((bt a0 eu)+1)%256]:List Int)):=⟨_,rfl⟩
       replace H:(if cO.size+(strOfNums Nf).size≤9223372036854775807 then(dO.l0 k1 a0 (cO++(strOfNums Nf)) (wrap64 (eu+1)))else(none))=some r:=by first|(rw[Nk];with_reducible exact H)|(have fF:=(Option.bind_some _ _).symm.trans H;rw[Nk];with_reducible exact fF)|(have fF:=(Option.bind_some _ _).symm.trans H;with_reducible exact fF)|with_reducible exact H|(rw[Nk];exact H)|exact H
       have abI:=ah.mk Nk
       clear Nk
       by_cases c7:cO.size+(strOfNums Nf).size≤9223372036854775807
       ·rw[if_pos c7]at H
        have c7b0:=eq_true c7
        have c7b1:=decide_eq_true c7
        try have c7b2:(9223372036854775807<cO.size+(strOfNums Nf).size)=False:=eq_false (Nat.not_lt.2 c7)
        have H':=ah.mk H
        clear H
        have p4:0≤(eu:Int):=of_decide_eq_true za
        have q4:eu<(a0.size:Int):=of_decide_eq_true za
        have hx4:=gB a0 eu
        replace p4:=eq_true p4
        replace q4:=eq_true q4
        go_wp2_with (first|((with_reducible refine gd 25 rfl ?_);refine Kd.R_lit (Kd.int .u8) _ 5 ?hg (N:=25) ?hd (xs:=([((bt a0 eu)+1)%256]:List Int)) (inner:=[.int .u8 (((bt a0 eu)+1)%256)]) (ok:=fun _=>True) (okp:=fun _=>True) ?hr ?hp (fun _ hk=>hk) trivial (Below.refl _ _) (Nat.le_refl _) (by simp) ?_;(case hd=>rfl);(case hg=>rfl);(case hr=>first|(go_simp;done)|(go_simp;rfl));(case hp=>exact(dm.one (show Kd.M (Kd.int .u8) _ _ _ (((bt a0 eu)+1)%256) [.int .u8 (((bt a0 eu)+1)%256)]from rfl) (dm.none _ _)));intro aPE w8 MQ hb nE fM;clear nE fM;(first|rw[←abI.out]at MQ|(simp only[Int.reduceToNat]at MQ;rw[←abI.out]at MQ));have alv:=ah.mk (Kd.R_lower MQ (aJ (zb HB)));replace HB:=ah.mk (ai (zb HB) hb);clear hb MQ;have al4:=lN (P:=Tryz.prog) Tryz.underlying22 Tryz.underlying5 Tryz.underlying9 (Kd.own_of_R alv.out)))
        go_roundg k1
        case measure=>have:=jc.out;omega
        case rel=>exact⟨(cO++(strOfNums Nf)),(wrap64 (eu+1)),zs,zs,H',⟨by have:=jc.out;omega⟩,⟨zb HB⟩⟩
       ·rw[if_neg c7]at H
        exact absurd H (by simp)
      ·rw[if_neg c6]at H
       have c6b0:=decide_eq_false c6
       clear c6
       obtain⟨Ng,Nl⟩:∃y_:List Int,y_=(([bt a0 eu]:List Int)):=⟨_,rfl⟩
       replace H:(if cO.size+(strOfNums Ng).size≤9223372036854775807 then(dO.l0 k1 a0 (cO++(strOfNums Ng)) (wrap64 (eu+1)))else(none))=some r:=by first|(rw[Nl];with_reducible exact H)|(have fF:=(Option.bind_some _ _).symm.trans H;rw[Nl];with_reducible exact fF)|(have fF:=(Option.bind_some _ _).symm.trans H;with_reducible exact fF)|with_reducible exact H|(rw[Nl];exact H)|exact H
       have abJ:=ah.mk Nl
       clear Nl
       by_cases c11:cO.size+(strOfNums Ng).size≤9223372036854775807
       ·rw[if_pos c11]at H
        have c11b0:=eq_true c11
        have c11b1:=decide_eq_true c11
        try have c11b2:(9223372036854775807<cO.size+(strOfNums Ng).size)=False:=eq_false (Nat.not_lt.2 c11)
        have H':=ah.mk H
        clear H
        have p4:0≤(eu:Int):=of_decide_eq_true za
        have q4:eu<(a0.size:Int):=of_decide_eq_true za
        have hx4:=gB a0 eu
        replace p4:=eq_true p4
        replace q4:=eq_true q4
        go_wp2_with (first|((with_reducible refine gd 25 rfl ?_);refine Kd.R_lit (Kd.int .u8) _ 5 ?hg (N:=25) ?hd (xs:=([bt a0 eu]:List Int)) (inner:=[.int .u8 (bt a0 eu)]) (ok:=fun _=>True) (okp:=fun _=>True) ?hr ?hp (fun _ hk=>hk) trivial (Below.refl _ _) (Nat.le_refl _) (by simp) ?_;(case hd=>rfl);(case hg=>rfl);(case hr=>first|(go_simp;done)|(go_simp;rfl));(case hp=>exact(dm.one (show Kd.M (Kd.int .u8) _ _ _ (bt a0 eu) [.int .u8 (bt a0 eu)]from rfl) (dm.none _ _)));intro aPF Xm uz hb nE fM;clear nE fM;(first|rw[←abJ.out]at uz|(simp only[Int.reduceToNat]at uz;rw[←abJ.out]at uz));have alx:=ah.mk (Kd.R_lower uz (aJ (zb HB)));replace HB:=ah.mk (ai (zb HB) hb);clear hb uz;have aKW:=lN (P:=Tryz.prog) Tryz.underlying22 Tryz.underlying5 Tryz.underlying9 (Kd.own_of_R alx.out)))
        go_roundg k1
        case measure=>have:=jc.out;omega
        case rel=>exact⟨(cO++(strOfNums Ng)),(wrap64 (eu+1)),zs,zs,H',⟨by have:=jc.out;omega⟩,⟨zb HB⟩⟩
       ·rw[if_neg c11]at H
        exact absurd H (by simp)
     ·rw[if_neg c5]at H
      have c5b0:=decide_eq_false c5
      clear c5
      obtain⟨Nh,Nn⟩:∃y_:List Int,y_=(([bt a0 eu]:List Int)):=⟨_,rfl⟩
      replace H:(if cO.size+(strOfNums Nh).size≤9223372036854775807 then(dO.l0 k1 a0 (cO++(strOfNums Nh)) (wrap64 (eu+1)))else(none))=some r:=by first|(rw[Nn];with_reducible exact H)|(have fF:=(Option.bind_some _ _).symm.trans H;rw[Nn];with_reducible exact fF)|(have fF:=(Option.bind_some _ _).symm.trans H;with_reducible exact fF)|with_reducible exact H|(rw[Nn];exact H)|exact H
      have abK:=ah.mk Nn
      clear Nn
      by_cases c15:cO.size+(strOfNums Nh).size≤9223372036854775807
      ·rw[if_pos c15]at H
       have c15b0:=eq_true c15
       have c15b1:=decide_eq_true c15
       try have c15b2:(9223372036854775807<cO.size+(strOfNums Nh).size)=False:=eq_false (Nat.not_lt.2 c15)
       have H':=ah.mk H
       clear H
       have p4:0≤(eu:Int):=of_decide_eq_true za
       have q4:eu<(a0.size:Int):=of_decide_eq_true za
       have hx4:=gB a0 eu
       replace p4:=eq_true p4
       replace q4:=eq_true q4
       go_wp2_with (first|((with_reducible refine gd 25 rfl ?_);refine Kd.R_lit (Kd.int .u8) _ 5 ?hg (N:=25) ?hd (xs:=([bt a0 eu]:List Int)) (inner:=[.int .u8 (bt a0 eu)]) (ok:=fun _=>True) (okp:=fun _=>True) ?hr ?hp (fun _ hk=>hk) trivial (Below.refl _ _) (Nat.le_refl _) (by simp) ?_;(case hd=>rfl);(case hg=>rfl);(case hr=>first|(go_simp;done)|(go_simp;rfl));(case hp=>exact(dm.one (show Kd.M (Kd.int .u8) _ _ _ (bt a0 eu) [.int .u8 (bt a0 eu)]from rfl) (dm.none _ _)));intro aPG w16 a0L hb nE fM;clear nE fM;(first|rw[←abK.out]at a0L|(simp only[Int.reduceToNat]at a0L;rw[←abK.out]at a0L));have aly:=ah.mk (Kd.R_lower a0L (aJ (zb HB)));replace HB:=ah.mk (ai (zb HB) hb);clear hb a0L;have aKX:=lN (P:=Tryz.prog) Tryz.underlying22 Tryz.underlying5 Tryz.underlying9 (Kd.own_of_R aly.out)))
       go_roundg k1
       case measure=>have:=jc.out;omega
       case rel=>exact⟨(cO++(strOfNums Nh)),(wrap64 (eu+1)),zs,zs,H',⟨by have:=jc.out;omega⟩,⟨zb HB⟩⟩
      ·rw[if_neg c15]at H
       exact absurd H (by simp)
    ·rw[if_neg c3]at H
     exact absurd H (by simp)
   ·skip
    have c2b0:=decide_eq_false c2
    clear c2
    obtain rfl:=Option.some.inj H
    go_wp2
    go_ret
    exact⟨ze,zb HB⟩
def gG.f(k:Nat)(a0:ByteArray)(a1:ByteArray):Option (ByteArray×ByteArray):=if a0.toList=([47,101,99,104,111]:List UInt8)then(some ((⟨#[48]⟩:ByteArray),a1))else(if a0.toList=([47,117,112]:List UInt8)then((dO.f k a1).bind fun a0M=>(some ((⟨#[48]⟩:ByteArray),a0M)))else(if a0.toList=([47,108,101,110]:List UInt8)then((dH.f k (a1.size:Int)).bind fun a0N=>(some ((⟨#[48]⟩:ByteArray),a0N)))else(some ((⟨#[49,50]⟩:ByteArray),(⟨#[]⟩:ByteArray)))))
theorem gG.mono:∀a0 a1 k,gV (gG.f k a0 a1) (gG.f (k+1) a0 a1):=by
 intro a0 a1 k
 unfold gG.f
 have m0:=@dO.mono
 have m1:=@dH.mono
 exact zm
theorem gG.calls(k:Nat)(a0:ByteArray)(a1:ByteArray)(r1:ByteArray)(r2:ByteArray)(w:World)(h:gG.f k a0 a1=some (r1,r2)):
 Calls Tryz.prog 120 #[.string a0,.string a1] w fun e w'=>e= .returned (.tuple #[.string r1,.string r2])∧Below w.heap.size w w':=by
 have HB:=ah.mk (Below.refl w.heap.size w)
 have H:(if a0.toList=([47,101,99,104,111]:List UInt8)then(some ((⟨#[48]⟩:ByteArray),a1))else(if a0.toList=([47,117,112]:List UInt8)then((dO.f k a1).bind fun a0M=>(some ((⟨#[48]⟩:ByteArray),a0M)))else(if a0.toList=([47,108,101,110]:List UInt8)then((dH.f k (a1.size:Int)).bind fun a0N=>(some ((⟨#[48]⟩:ByteArray),a0N)))else(some ((⟨#[49,50]⟩:ByteArray),(⟨#[]⟩:ByteArray))))))=some (r1,r2):=h
 clear h
 replace H:=sp H
 rcases H with⟨c3,H⟩|⟨c3,H⟩
 ·skip
  have c3b0:(a0.toList==([47,101,99,104,111]:List UInt8))=true:=beq_iff_eq.mpr c3
  have c3b1:(a0.toList != ([47,101,99,104,111]:List UInt8))=false:=bne_eq_false_iff_eq.mpr c3
  clear c3
  simp only[Option.some.injEq,Prod.mk.injEq]at H
  obtain⟨rfl,rfl⟩:=H
  go_enter Tryz.func120,Tryz.ntmps120
  go_wp2
  go_ret2
  exact⟨ze,zb HB⟩
 ·skip
  have c3b0:(a0.toList==([47,101,99,104,111]:List UInt8))=false:=beq_eq_false_iff_ne.mpr c3
  have c3b1:(a0.toList != ([47,101,99,104,111]:List UInt8))=true:=bne_iff_ne.mpr c3
  replace H:=sp H
  rcases H with⟨c4,H⟩|⟨c4,H⟩
  ·skip
   have c4b0:(a0.toList==([47,117,112]:List UInt8))=true:=beq_iff_eq.mpr c4
   have c4b1:(a0.toList != ([47,117,112]:List UInt8))=false:=bne_eq_false_iff_eq.mpr c4
   clear c4
   obtain⟨a0M,A5,H⟩:=ob H
   (try dsimp only at H)
   simp only[Option.some.injEq,Prod.mk.injEq]at H
   obtain⟨rfl,rfl⟩:=H
   go_enter Tryz.func120,Tryz.ntmps120
   go_wp2_with (first|((with_reducible refine gq 122 rfl ?_);refine gl (some 13) Tryz.func122 #[.string a1] ?_;(with_reducible refine(dO.calls k a1 a0M _ A5.out).mono ?_);rintro e w6 ⟨rfl,hb⟩;refine⟨_,rfl,?_⟩;replace HB:=ah.mk (ai (zb HB) hb);(try clear hb)))
   go_ret2
   exact⟨ze,zb HB⟩
  ·skip
   have c4b0:(a0.toList==([47,117,112]:List UInt8))=false:=beq_eq_false_iff_ne.mpr c4
   have c4b1:(a0.toList != ([47,117,112]:List UInt8))=true:=bne_iff_ne.mpr c4
   replace H:=sp H
   rcases H with⟨c7,H⟩|⟨c7,H⟩
   ·skip
    have c7b0:(a0.toList==([47,108,101,110]:List UInt8))=true:=beq_iff_eq.mpr c7
    have c7b1:(a0.toList != ([47,108,101,110]:List UInt8))=false:=bne_eq_false_iff_eq.mpr c7
    clear c7
    obtain⟨a0N,A8,H⟩:=ob H
    (try dsimp only at H)
    simp only[Option.some.injEq,Prod.mk.injEq]at H
    obtain⟨rfl,rfl⟩:=H
    go_enter Tryz.func120,Tryz.ntmps120
    go_wp2_with (first|((with_reducible refine gq 87 rfl ?_);refine gl (some 18) Tryz.func87 #[.int .i64 (a1.size:Int)] ?_;(with_reducible refine(dH.calls k (a1.size:Int) a0N _ A8.out).mono ?_);rintro e w9 ⟨rfl,hb⟩;refine⟨_,rfl,?_⟩;replace HB:=ah.mk (ai (zb HB) hb);(try clear hb)))
    go_ret2
    exact⟨ze,zb HB⟩
   ·skip
    have c7b0:(a0.toList==([47,108,101,110]:List UInt8))=false:=beq_eq_false_iff_ne.mpr c7
    have c7b1:(a0.toList != ([47,108,101,110]:List UInt8))=true:=bne_iff_ne.mpr c7
    simp only[Option.some.injEq,Prod.mk.injEq]at H
    obtain⟨rfl,rfl⟩:=H
    go_enter Tryz.func120,Tryz.ntmps120
    go_wp2
    go_ret2
    exact⟨ze,zb HB⟩
def jR.f(k:Nat)(aV:Int)(aA:Int)(jo:List (bg))(cB:ByteArray)(lI:Bool)(lJ:Bool)(lU:Int)(j4:List (bg))(jf:ByteArray)(nu:Bool)(gW:Int)(j5:Int):Option (Int×Int×(List (bg))×ByteArray×Bool×Bool×Int×(List (bg))×ByteArray×Bool×Int×Int):=(dF.f k j4 (⟨#[58,112,97,116,104]⟩:ByteArray)).bind fun a0O=>((gG.f k a0O.1 jf).bind fun Np=>(some (aV,aA,(([(⟨(⟨#[58,115,116,97,116,117,115]⟩:ByteArray),Np.1,false⟩:bg),(⟨(⟨#[107,105,110,100]⟩:ByteArray),(⟨#[116,101,120,116]⟩:ByteArray),false⟩:bg)]:List (bg))),Np.2,false,false,0,j4,jf,nu,gW,j5)))
theorem jR.mono:∀a0 a1 a2 a3 a4 a5 a6 a7 a8 a9 Mw QD k,gV (jR.f k a0 a1 a2 a3 a4 a5 a6 a7 a8 a9 Mw QD) (jR.f (k+1) a0 a1 a2 a3 a4 a5 a6 a7 a8 a9 Mw QD):=by
 intro a0 a1 a2 a3 a4 a5 a6 a7 a8 a9 Mw QD k
 unfold jR.f
 have m0:=@gG.mono
 have m1:=@dF.mono
 exact zm
theorem jR.calls(k:Nat)(aV:Int)(aA:Int)(qc:Option Addr)(qd:Nat)(jo:List (bg))(cB:ByteArray)(lI:Bool)(lJ:Bool)(lU:Int)(Ns:Nat→Prop)(kW:Value)(j4:List (bg))(jf:ByteArray)(nu:Bool)(gW:Int)(j5:Int)(r1:Int)(r2:Int)(r3:List (bg))(r4:ByteArray)(r5:Bool)(r6:Bool)(r7:Int)(r8:List (bg))(r9:ByteArray)(Yo:Bool)(Yp:Int)(Yq:Int)(w0 w:World)(hB:Below w0.heap.size w0 w)(Cs:∀W_,Kept w W_ (fun _=>False)→Kd.C iF W_ qc jo.length jo)(Ct:jo.length≤qd)(alz:Kd.R iF 89 w w0.heap.size Ns kW j4)(h:jR.f k aV aA jo cB lI lJ lU j4 jf nu gW j5=some (r1,r2,r3,r4,r5,r6,r7,r8,r9,Yo,Yp,Yq)):
 Calls Tryz.prog 112 #[.agg #[.int .i64 aV,.int .i64 aA,.slice qc jo.length qd,.string cB,.bool lI,.bool lJ,.int .i64 lU,kW,.string jf,.bool nu,.int .i64 gW,.int .i64 j5]] w fun e w'=>∃v2_ v7_:Value,e= .returned (.agg #[.int .i64 r1,.int .i64 r2,v2_,.string r4,.bool r5,.bool r6,.int .i64 r7,v7_,.string r9,.bool Yo,.int .i64 Yp,.int .i64 Yq])∧Kd.R iF 89 w' w0.heap.size (fun k_=>(Ns k_∨w.heap.size≤k_)∧some k_≠(v7_:Value).ownBlock) v2_ r3∧Kd.R iF 89 w' w0.heap.size (fun k_=>(Ns k_∨w.heap.size≤k_)∧some k_≠(v2_:Value).ownBlock) v7_ r8∧Below w0.heap.size w0 w'∧Kept w w' (fun _=>False):=by
 have adN:=Tryz.underlying39
 have rZ:=Tryz.underlying89
 have rA:=ah.mk Cs
 have rD:=ah.mk Ct
 clear Cs Ct
 have qF:=ah.mk (show Kd.R iF 89 w w0.heap.size (fun k_=>(Ns k_∨w.heap.size≤k_)) kW j4 from Kd.R_mono alz (fun k_ hk=>(.inl hk)))
 have HK:=ah.mk (Kept.refl w (fun _=>False))
 have HW0:=ah.mk hB.size
 have HB:=ah.mk hB
 clear hB
 have H:((dF.f k j4 (⟨#[58,112,97,116,104]⟩:ByteArray)).bind fun a0O=>((gG.f k a0O.1 jf).bind fun Np=>(some (aV,aA,(([(⟨(⟨#[58,115,116,97,116,117,115]⟩:ByteArray),Np.1,false⟩:bg),(⟨(⟨#[107,105,110,100]⟩:ByteArray),(⟨#[116,101,120,116]⟩:ByteArray),false⟩:bg)]:List (bg))),Np.2,false,false,0,j4,jf,nu,gW,j5))))=some (r1,r2,r3,r4,r5,r6,r7,r8,r9,Yo,Yp,Yq):=h
 clear h
 obtain⟨⟨af4,aBV⟩,A2,H⟩:=ob H
 (try dsimp only at H)
 obtain⟨⟨QM,af5⟩,A3,H⟩:=ob H
 (try dsimp only at H)
 obtain⟨alA,Nt⟩:∃y_:List (bg),y_=(([(⟨(⟨#[58,115,116,97,116,117,115]⟩:ByteArray),QM,false⟩:bg),(⟨(⟨#[107,105,110,100]⟩:ByteArray),(⟨#[116,101,120,116]⟩:ByteArray),false⟩:bg)]:List (bg))):=⟨_,rfl⟩
 replace H:(some (aV,aA,alA,af5,false,false,0,j4,jf,nu,gW,j5))=some (r1,r2,r3,r4,r5,r6,r7,r8,r9,Yo,Yp,Yq):=by first|(rw[Nt];with_reducible exact H)|(have fF:=(Option.bind_some _ _).symm.trans H;rw[Nt];with_reducible exact fF)|(have fF:=(Option.bind_some _ _).symm.trans H;with_reducible exact fF)|with_reducible exact H|(rw[Nt];exact H)|exact H
 have abL:=ah.mk Nt
 clear Nt
 simp only[Option.some.injEq,Prod.mk.injEq]at H
 obtain⟨rfl,rfl,rfl,rfl,rfl,rfl,rfl,rfl,rfl,rfl,rfl,rfl⟩:=H
 obtain⟨Ao4,co4,eo4⟩:=Kd.R_slice qF.out
 subst eo4
 go_enter Tryz.func112,Tryz.ntmps112
 go_wp2_with (first|((with_reducible refine gd 1 rfl ?_);refine bx (N:=1) (cs:=#[.int .i64 aV,.int .i64 aA,.slice qc jo.length qd,.string cB,.bool lI,.bool lJ,.int .i64 lU,.slice Ao4 j4.length co4,.string jf,.bool nu,.int .i64 gW,.int .i64 j5]) (t:=39) ?_;intro abM hg w5 hbox hb;replace qF:=ah.mk (Kd.R_below (zr qF) hb);have rF:=ah.mk (hbox);have alB:=ah.mk ((by rw[hg];exact(kz (w:=w)).1:w.heap.size≤abM));replace HK:=kq hb;have aKY:=ah.mk ((by rw[hg];exact(aJ (zb HB)):w0.heap.size≤abM));replace HB:=ah.mk (ai (zb HB) hb);clear hb hbox hg)|((with_reducible refine gd 2 rfl ?_);refine bx (N:=2) (cs:=#[.int .i64 0,.int .i64 0,.slice none 0 0,.string (⟨#[]⟩:ByteArray),.bool false,.bool false,.int .i64 0,.slice none 0 0,.string (⟨#[]⟩:ByteArray),.bool false,.int .i64 0,.int .i64 0]) (t:=39) ?_;intro a0P hg w6 hbox hb;replace qF:=ah.mk (Kd.R_below (zr qF) hb);have xP:=ah.mk (hbox);have alC:=ah.mk ((by rw[hg];exact(kz (w:=w)).1:w.heap.size≤a0P));replace HK:=kq hb;have aKZ:=ah.mk ((by rw[hg];exact(aJ (zb HB)):w0.heap.size≤a0P));replace HB:=ah.mk (ai (zb HB) hb);obtain⟨Xp,Xq⟩:=nb rF hg;replace rF:=kb rF hb;clear hb hbox hg;have aBR:=Xp.out;have aBS:=Xq.out;obtain⟨Bq,Br,aes,aeu,aev,aew,aex,aey,aez,aeA,a8j,atL,Bt,Bu,aeB,aeC,aeD,aeE,aeF,aeG,aeH,aeI,a8k,atM⟩:=c12 rF)|((with_reducible refine gq 119 rfl ?_);refine gl (some 10) Tryz.func119 #[.slice Ao4 j4.length co4,.string (⟨#[58,112,97,116,104]⟩:ByteArray)] ?_;(with_reducible refine(dF.calls k _ _ j4 (⟨#[58,112,97,116,104]⟩:ByteArray) af4 aBV _ ?aN ?aQ A2.out).mono ?_);(case aN=>exact zc (Kd.R_reads' qF.out).2.2);(case aQ=>exact(Kd.R_reads' qF.out).2.1);rintro e w9 ⟨rfl,hb⟩;refine⟨_,rfl,?_⟩;replace qF:=ah.mk (Kd.R_below (zr qF) hb);replace rF:=kb rF hb;replace xP:=kb xP hb;replace HK:=kq hb;replace HB:=ah.mk (ai (zb HB) hb);(try clear hb);obtain⟨Dy,Dz,Um,a6S,atN,atO,atP,atQ,atS,atT,alD,alE,DC,DF,Un,a6T,atU,atV,atW,atX,atY,atZ,alF,alG⟩:=c12 rF)|((with_reducible refine gq 120 rfl ?_);refine gl (some 17) Tryz.func120 #[.string af4,.string jf] ?_;(with_reducible refine(gG.calls k af4 jf QM af5 _ A3.out).mono ?_);rintro e w11 ⟨rfl,hb⟩;refine⟨_,rfl,?_⟩;replace qF:=ah.mk (Kd.R_below (zr qF) hb);replace rF:=kb rF hb;replace xP:=kb xP hb;replace HK:=kq hb;replace HB:=ah.mk (ai (zb HB) hb);(try clear hb))|((with_reducible refine gd 23 rfl ?_);refine Kd.R_lit iF _ 89 ?hg (N:=23) ?hd (xs:=([(⟨(⟨#[58,115,116,97,116,117,115]⟩:ByteArray),QM,false⟩:bg),(⟨(⟨#[107,105,110,100]⟩:ByteArray),(⟨#[116,101,120,116]⟩:ByteArray),false⟩:bg)]:List (bg))) (inner:=[.string (⟨#[58,115,116,97,116,117,115]⟩:ByteArray),.string QM,.bool false,.string (⟨#[107,105,110,100]⟩:ByteArray),.string (⟨#[116,101,120,116]⟩:ByteArray),.bool false]) (ok:=fun _=>True) (okp:=fun _=>True) ?hr ?hp (fun _ hk=>hk) trivial (Below.refl _ _) (Nat.le_refl _) (by simp) ?_;(case hd=>rfl);(case hg=>rfl);(case hr=>first|(go_simp;done)|(go_simp;rfl));(case hp=>exact(dm.c3 (show Kd.M iF _ _ _ (⟨(⟨#[58,115,116,97,116,117,115]⟩:ByteArray),QM,false⟩:bg) [.string (⟨#[58,115,116,97,116,117,115]⟩:ByteArray),.string QM,.bool false]from(lD _ _ _ (⟨(⟨#[58,115,116,97,116,117,115]⟩:ByteArray),QM,false⟩:bg))) (dm.c3 (show Kd.M iF _ _ _ (⟨(⟨#[107,105,110,100]⟩:ByteArray),(⟨#[116,101,120,116]⟩:ByteArray),false⟩:bg) [.string (⟨#[107,105,110,100]⟩:ByteArray),.string (⟨#[116,101,120,116]⟩:ByteArray),.bool false]from(lD _ _ _ (⟨(⟨#[107,105,110,100]⟩:ByteArray),(⟨#[116,101,120,116]⟩:ByteArray),false⟩:bg))) (dm.none _ _))));intro aPH Xm uz hb nE fM;clear nE fM;(first|rw[←abL.out]at uz|(simp only[Int.reduceToNat]at uz;rw[←abL.out]at uz));have abN:=ah.mk (Kd.R_lower (Kd.R_new' (Kd.R_newM (M:=fun k_=>(Ns k_∨w.heap.size≤k_)) uz (by first|exact HK.out.1|exact(show Kept w _ (fun _=>False)from by repeat(first|(with_reducible first|exact HK.out|apply Kept.alloc|apply Kept.drewN|apply Kept.drew|refine Kept.setCell ?_ (.inr alB.out) _|refine Kept.setCell ?_ (.inr alC.out) _)|exact HK.out)).1) (fun k_ h_=>.inr h_)) (Kd.R_lt (zr qF))) (aJ (zb HB)));replace qF:=ah.mk (Kd.R_elder' (zr qF) (Kd.R_base uz) hb);replace rF:=kb rF hb;replace xP:=kb xP hb;replace HK:=kq hb;replace HB:=ah.mk (ai (zb HB) hb);clear hb uz;obtain⟨af6,af7,af8⟩:=Kd.R_slice abN.out;subst af8;obtain⟨zn,zo,zu,Uo,au0,au1,au2,au3,au4,au5,alH,alI,zw,zx,zy,Uq,au6,au7,au8,au9,aua,aub,alJ,alK⟩:=c12 rF;obtain⟨JA,JB,Ur,Us,a7h,a7i,a7j,a7k,a7l,a7m,a0m,a0n,JC,JD,Ut,Uu,a7n,a7o,a7p,a7q,a7r,a7s,a0o,a0p⟩:=c12 xP))
 refine bodyPost_ret (results_cell_row rfl _ _ a0P 39 #[.int .i64 aV,.int .i64 aA,.slice af6 alA.length af7,.string af5,.bool false,.bool false,.int .i64 0,.slice Ao4 j4.length co4,.string jf,.bool nu,.int .i64 gW,.int .i64 j5] (0,0) _ rfl (zp xP) Tryz.underlying39 rfl (by kernel_rfl)) rfl ?_
 exact⟨_,_,ze,(Kd.R_mono (qb (Kd.R_types (Kd.R_types abN.out rF.out (by decide)) xP.out (by decide))) (fun _ hk=>⟨hk.1.1.1.1,hk.1.1.2⟩)),(Kd.R_mono (qb (Kd.R_types (Kd.R_types qF.out rF.out (by decide)) xP.out (by decide))) (fun _ hk=>⟨hk.1.1.1,hk.1.1.2⟩)),zb HB,kz⟩
def dB.l0:Nat→ByteArray→Int→ByteArray→Option (ByteArray)
 |0,_,_,_=>none
 |k+1,x0,x1,x5=>if x1>0 then(if(Int.tmod x1 2)=1 then(if x5.size+x0.size≤9223372036854775807 then(if x0.size+x0.size≤9223372036854775807 then(dB.l0 k (x0++x0) (wrap64 (Int.tdiv x1 2)) (x5++x0))else(none))else(none))else(if x0.size+x0.size≤9223372036854775807 then(dB.l0 k (x0++x0) (wrap64 (Int.tdiv x1 2)) x5)else(none)))else(some x5)
def dB.f(k:Nat)(a0:ByteArray)(a1:Int):Option (ByteArray):=dB.l0 k a0 a1 (⟨#[]⟩:ByteArray)
theorem dB.mono_l:∀k,(∀y0 y1 y2,gV (dB.l0 k y0 y1 y2) (dB.l0 (k+1) y0 y1 y2))
 |0=>fun _ _ _ r h=>by simp[dB.l0]at h
 |k+1=>by
  have ng:=dB.mono_l k
  ·intro y0 y1 y2
   unfold dB.l0
   exact zm
theorem dB.mono:∀a0 a1 k,gV (dB.f k a0 a1) (dB.f (k+1) a0 a1):=by
 intro a0 a1 k
 have ng:=dB.mono_l k
 unfold dB.f
 exact zm
theorem dB.calls(k:Nat)(a0:ByteArray)(a1:Int)(r:ByteArray)(w:World)(h:dB.f k a0 a1=some r):
 Calls Tryz.prog 47 #[.string a0,.int .i64 a1] w fun e w'=>e= .returned (.string r)∧aZ w w':=by
 have H:(dB.l0 k a0 a1 (⟨#[]⟩:ByteArray))=some r:=h
 clear h
 have H':=ah.mk H
 clear H
 go_enter Tryz.func47,Tryz.ntmps47
 go_wp2
 go_loopg [0,1,5] k (fun kq v0 v1 v5 w'=>∃(lK:ByteArray)(nY:Int)(jE:ByteArray),v0= .string lK∧v1= .int .i64 nY∧v5= .string jE∧ah (dB.l0 kq lK nY jE=some r)∧ah (kq≤k)∧aZ w w')
 case atStart=>exact⟨(a0),(a1),((⟨#[]⟩:ByteArray)),zs,zs,zs,H',⟨Nat.le_refl _⟩,by repeat(first|exact aZ.refl _|apply aZ.step)⟩
 case round=>
  clear H'
  try clear p2
  obtain⟨lK,nY,jE,rfl,rfl,rfl,HA,jc,⟨m1,rfl⟩⟩:=hrel
  cases gk with
  |zero=>exact absurd HA.out (by simp[dB.l0])
  |succ k1=>
   have H:=HA.out
   clear HA
   simp only[dB.l0]at H
   replace H:=sp H
   rcases H with⟨c3,H⟩|⟨c3,H⟩
   ·skip
    have c3b0:=decide_eq_true c3
    clear c3
    by_cases c4:(Int.tmod nY 2)=1
    ·rw[if_pos c4]at H
     have c4b0:((Int.tmod nY 2)==1)=true:=beq_iff_eq.mpr c4
     have c4b1:((Int.tmod nY 2) != 1)=false:=bne_eq_false_iff_eq.mpr c4
     clear c4
     by_cases c5:jE.size+lK.size≤9223372036854775807
     ·rw[if_pos c5]at H
      have c5b0:=eq_true c5
      have c5b1:=decide_eq_true c5
      try have c5b2:(9223372036854775807<jE.size+lK.size)=False:=eq_false (Nat.not_lt.2 c5)
      by_cases c6:lK.size+lK.size≤9223372036854775807
      ·rw[if_pos c6]at H
       have c6b0:=eq_true c6
       have c6b1:=decide_eq_true c6
       try have c6b2:(9223372036854775807<lK.size+lK.size)=False:=eq_false (Nat.not_lt.2 c6)
       have H':=ah.mk H
       clear H
       go_wp2
       go_roundg k1
       case measure=>have:=jc.out;omega
       case rel=>exact⟨(lK++lK),(wrap64 (Int.tdiv nY 2)),(jE++lK),zs,zs,zs,H',⟨by have:=jc.out;omega⟩,by repeat(first|exact aZ.refl _|apply aZ.step)⟩
      ·rw[if_neg c6]at H
       exact absurd H (by simp)
     ·rw[if_neg c5]at H
      exact absurd H (by simp)
    ·rw[if_neg c4]at H
     have c4b0:((Int.tmod nY 2)==1)=false:=beq_eq_false_iff_ne.mpr c4
     have c4b1:((Int.tmod nY 2) != 1)=true:=bne_iff_ne.mpr c4
     by_cases c7:lK.size+lK.size≤9223372036854775807
     ·rw[if_pos c7]at H
      have c7b0:=eq_true c7
      have c7b1:=decide_eq_true c7
      try have c7b2:(9223372036854775807<lK.size+lK.size)=False:=eq_false (Nat.not_lt.2 c7)
      have H':=ah.mk H
      clear H
      go_wp2
      go_roundg k1
      case measure=>have:=jc.out;omega
      case rel=>exact⟨(lK++lK),(wrap64 (Int.tdiv nY 2)),(jE),zs,zs,zs,H',⟨by have:=jc.out;omega⟩,by repeat(first|exact aZ.refl _|apply aZ.step)⟩
     ·rw[if_neg c7]at H
      exact absurd H (by simp)
   ·skip
    have c3b0:=decide_eq_false c3
    clear c3
    obtain rfl:=Option.some.inj H
    go_wp2
    go_ret
    exact⟨zs,by repeat(first|exact aZ.refl _|apply aZ.step)⟩
def di.l0:Nat→ByteArray→Int→List Int→Int→Option (ByteArray×Int)
 |0,_,_,_,_=>none
 |k+1,x3,x4,x1000,kC=>if x4>0 then((av.f k x1000 kC 24).bind fun Vh=>((av.f k x1000 Vh.2 4).bind fun a0Q=>(if a0Q.1=0 then((av.f k x1000 a0Q.2 39).bind fun Vi=>(if 0≤Vi.1 then(if Vi.1<39 then((bP.f (wrap64 (bt (⟨#[101,116,97,111,105,110,115,114,104,108,48,49,50,51,52,53,54,55,56,57,100,99,117,109,102,112,103,119,121,98,118,107,120,106,113,122,58,47,45]⟩:ByteArray) Vi.1))).bind fun QN=>(if x3.size+QN.size≤9223372036854775807 then(di.l0 k (x3++QN) (wrap64 (x4-1)) x1000 Vi.2)else(none)))else(none))else(none)))else(if 0≤Vh.1 then(if Vh.1<39 then((bP.f (wrap64 (bt (⟨#[101,116,97,111,105,110,115,114,104,108,48,49,50,51,52,53,54,55,56,57,100,99,117,109,102,112,103,119,121,98,118,107,120,106,113,122,58,47,45]⟩:ByteArray) Vh.1))).bind fun QO=>(if x3.size+QO.size≤9223372036854775807 then(di.l0 k (x3++QO) (wrap64 (x4-1)) x1000 a0Q.2)else(none)))else(none))else(none)))))else((av.f k x1000 kC 24).bind fun Nu=>(if Nu.1=0 then(if x3.size+1≤9223372036854775807 then(some (x3++(⟨#[65]⟩:ByteArray),Nu.2))else(none))else(if Nu.1=1 then((av.f k x1000 Nu.2 4).bind fun abO=>((dB.f k (⟨#[101]⟩:ByteArray) (wrap64 (15+abO.1))).bind fun af9=>(some (af9,abO.2))))else(some (x3,Nu.2)))))
def di.f(k:Nat)(bJ:List Int)(gy:Int):Option (ByteArray×Int):=(av.f k bJ gy 9).bind fun Nv=>((av.f k bJ Nv.2 6).bind fun Nw=>(di.l0 k (⟨#[]⟩:ByteArray) (wrap64 (Nv.1+(wrap64 ((wrap64 (Int.tdiv Nw.1 5))*8)))) bJ Nw.2))
theorem di.mono_l:∀k,(∀y0 y1 y2 y3,gV (di.l0 k y0 y1 y2 y3) (di.l0 (k+1) y0 y1 y2 y3))
 |0=>fun _ _ _ _ r h=>by simp[di.l0]at h
 |k+1=>by
  have ng:=di.mono_l k
  ·intro y0 y1 y2 y3
   unfold di.l0
   have m0:=@dB.mono
   have m1:=@av.mono
   exact zm
theorem di.mono:∀a0 a1 k,gV (di.f k a0 a1) (di.f (k+1) a0 a1):=by
 intro a0 a1 k
 have ng:=di.mono_l k
 unfold di.f
 have m0:=@dB.mono
 have m1:=@av.mono
 exact zm
theorem di.calls(k:Nat)(g:Nat)(bJ:List Int)(gy:Int)(r1:ByteArray)(r2:Int)(w0 w:World)(hI:aK w0 w g bJ gy)(hB:Below w0.heap.size w0 w)(h:di.f k bJ gy=some (r1,r2)):
 Calls Tryz.prog 58 #[.pointer (some ⟨g,0,none⟩)] w fun e w'=>e= .returned (.string r1)∧aK w0 w' g bJ r2∧Below w0.heap.size w0 w'∧ay w w' g none:=by
 have HI0:=ah.mk hI
 have HK:=ah.mk (ay.refl w g none)
 have HL:=ah.mk hB.size
 clear hI
 have HW0:=ah.mk hB.size
 have HB:=ah.mk hB
 clear hB
 have H:((av.f k bJ gy 9).bind fun Nv=>((av.f k bJ Nv.2 6).bind fun Nw=>(di.l0 k (⟨#[]⟩:ByteArray) (wrap64 (Nv.1+(wrap64 ((wrap64 (Int.tdiv Nw.1 5))*8)))) bJ Nw.2)))=some (r1,r2):=h
 clear h
 obtain⟨⟨alL,alM⟩,A2,H⟩:=ob H
 (try dsimp only at H)
 obtain⟨⟨alN,alO⟩,A3,H⟩:=ob H
 (try dsimp only at H)
 have H':=ah.mk H
 clear H
 go_enter Tryz.func58,Tryz.ntmps58
 go_wp2_with (first|((with_reducible refine gq 22 rfl ?_);refine gl (some 7) Tryz.func22 #[.pointer (some ⟨g,0,none⟩),.int .i64 9] ?_;(with_reducible refine(av.calls k g bJ gy 9 alL alM w0 _ ?aN ?aQ A2.out).mono ?_);(case aN=>exact eD HI0);(case aQ=>exact gL HB);rintro e w4 ⟨rfl,hi,hb,hk⟩;refine⟨_,rfl,?_⟩;replace HK:=ah.mk (ay.trans (zh HK) hk (.inl rfl));replace HB:=ah.mk (hb);replace HI0:=ah.mk (hi);(try clear hb);(try clear hk);(try clear hi))|((with_reducible refine gq 22 rfl ?_);refine gl (some 9) Tryz.func22 #[.pointer (some ⟨g,0,none⟩),.int .i64 6] ?_;(with_reducible refine(av.calls k g bJ alM 6 alN alO w0 _ ?aN ?aQ A3.out).mono ?_);(case aN=>exact eD HI0);(case aQ=>exact gL HB);rintro e w5 ⟨rfl,hi,hb,hk⟩;refine⟨_,rfl,?_⟩;replace HK:=ah.mk (ay.trans (zh HK) hk (.inl rfl));replace HB:=ah.mk (hb);replace HI0:=ah.mk (hi);(try clear hb);(try clear hk);(try clear hi)))
 go_loopg [3,4] k (fun kq v3 v4 w'=>∃(cO:ByteArray)(eu:Int)(iB:Int),v3= .string cO∧v4= .int .i64 eu∧ah (di.l0 kq cO eu bJ iB=some (r1,r2))∧ah (kq≤k)∧ah (aK w0 w' g bJ iB)∧ah (ay w w' g none)∧ah (Below w0.heap.size w0 w'))
 case atStart=>exact⟨((⟨#[]⟩:ByteArray)),(wrap64 (alL+(wrap64 ((wrap64 (Int.tdiv alN 5))*8)))),(alO),zs,zs,H',⟨Nat.le_refl _⟩,⟨eD HI0⟩,⟨zh HK⟩,⟨gL HB⟩⟩
 case round=>
  clear H'
  try clear c2
  try clear p2
  try clear c5
  obtain⟨cO,eu,iB,rfl,rfl,HA,jc,HI0,HK,HB⟩:=hrel
  cases gk with
  |zero=>exact absurd HA.out (by simp[di.l0])
  |succ k1=>
   have H:=HA.out
   clear HA
   simp only[di.l0]at H
   replace H:=sp H
   rcases H with⟨c6,H⟩|⟨c6,H⟩
   ·skip
    have c6b0:=decide_eq_true c6
    clear c6
    obtain⟨⟨Ny,alP⟩,A7,H⟩:=ob H
    (try dsimp only at H)
    obtain⟨⟨Xr,afa⟩,A8,H⟩:=ob H
    (try dsimp only at H)
    have HC9:=ah.mk H
    clear H
    go_upto_if 21 with(first|((with_reducible refine gq 22 rfl ?_);refine gl (some 18) Tryz.func22 #[.pointer (some ⟨g,0,none⟩),.int .i64 24] ?_;(with_reducible refine(av.calls k1 g bJ iB 24 Ny alP w0 _ ?aN ?aQ A7.out).mono ?_);(case aN=>exact eD HI0);(case aQ=>exact gL HB);rintro e w10 ⟨rfl,hi,hb,hk⟩;refine⟨_,rfl,?_⟩;replace HK:=ah.mk (ay.trans (zh HK) hk (.inl rfl));replace HB:=ah.mk (hb);replace HI0:=ah.mk (hi);(try clear hb);(try clear hk);(try clear hi))|((with_reducible refine gq 22 rfl ?_);refine gl (some 20) Tryz.func22 #[.pointer (some ⟨g,0,none⟩),.int .i64 4] ?_;(with_reducible refine(av.calls k1 g bJ alP 4 Xr afa w0 _ ?aN ?aQ A8.out).mono ?_);(case aN=>exact eD HI0);(case aQ=>exact gL HB);rintro e w11 ⟨rfl,hi,hb,hk⟩;refine⟨_,rfl,?_⟩;replace HK:=ah.mk (ay.trans (zh HK) hk (.inl rfl));replace HB:=ah.mk (hb);replace HI0:=ah.mk (hi);(try clear hb);(try clear hk);(try clear hi)))
    (try simp only[Act.put,s1,s2,s3])
    have H:=HC9.out
    clear HC9
    by_cases c12:Xr=0
    ·rw[if_pos c12]at H
     have c12b0:(Xr==0)=true:=beq_iff_eq.mpr c12
     have c12b1:(Xr != 0)=false:=bne_eq_false_iff_eq.mpr c12
     clear c12
     (first|rw[c12b0]|rw[c12b1]|rw[c12b2]|(simp only[iC,iQ];rw[c12b0])|skip)
     obtain⟨⟨Nz,alQ⟩,A13,H⟩:=ob H
     (try dsimp only at H)
     by_cases c14:0≤Nz
     ·rw[if_pos c14]at H
      have c14b0:=decide_eq_true c14
      clear c14
      by_cases c15:Nz<39
      ·rw[if_pos c15]at H
       have c15b0:=decide_eq_true c15
       clear c15
       obtain⟨QN,Xn,H⟩:=ob H
       (try dsimp only at H)
       by_cases c18:cO.size+QN.size≤9223372036854775807
       ·rw[if_pos c18]at H
        have c18b0:=eq_true c18
        have c18b1:=decide_eq_true c18
        try have c18b2:(9223372036854775807<cO.size+QN.size)=False:=eq_false (Nat.not_lt.2 c18)
        have H':=ah.mk H
        clear H
        go_wp2_with (first|((with_reducible refine gq 22 rfl ?_);refine gl (some 23) Tryz.func22 #[.pointer (some ⟨g,0,none⟩),.int .i64 39] ?_;(with_reducible refine(av.calls k1 g bJ afa 39 Nz alQ w0 _ ?aN ?aQ A13.out).mono ?_);(case aN=>exact eD HI0);(case aQ=>exact gL HB);rintro e w19 ⟨rfl,hi,hb,hk⟩;refine⟨_,rfl,?_⟩;replace HK:=ah.mk (ay.trans (zh HK) hk (.inl rfl));replace HB:=ah.mk (hb);replace HI0:=ah.mk (hi);(try clear hb);(try clear hk);(try clear hi);have p16:0≤(Nz:Int):=of_decide_eq_true za;have q16:Nz<(39:Int):=of_decide_eq_true za;have hx16:=gB (⟨#[101,116,97,111,105,110,115,114,104,108,48,49,50,51,52,53,54,55,56,57,100,99,117,109,102,112,103,119,121,98,118,107,120,106,113,122,58,47,45]⟩:ByteArray) Nz;replace p16:=eq_true p16;replace q16:=eq_true q16)|((with_reducible refine gq 59 rfl ?_);refine gl (some 28) Tryz.func59 #[.int .i64 (wrap64 (bt (⟨#[101,116,97,111,105,110,115,114,104,108,48,49,50,51,52,53,54,55,56,57,100,99,117,109,102,112,103,119,121,98,118,107,120,106,113,122,58,47,45]⟩:ByteArray) Nz))] ?_;(with_reducible refine(bP.calls (wrap64 (bt (⟨#[101,116,97,111,105,110,115,114,104,108,48,49,50,51,52,53,54,55,56,57,100,99,117,109,102,112,103,119,121,98,118,107,120,106,113,122,58,47,45]⟩:ByteArray) Nz)) QN _ Xn.out).mono ?_);rintro e w20 ⟨rfl,hb⟩;refine⟨_,rfl,?_⟩;replace HI0:=ah.mk (aK.below (eD HI0) hb);replace HK:=ah.mk (ay.trans (zh HK) (ay.of_below hb g none) (.inl rfl));replace HB:=ah.mk (ai (gL HB) hb);(try clear hb)))
        go_roundg k1
        case measure=>have:=jc.out;omega
        case rel=>exact⟨(cO++QN),(wrap64 (eu-1)),(alQ),zs,zs,H',⟨by have:=jc.out;omega⟩,⟨eD HI0⟩,⟨zh HK⟩,⟨gL HB⟩⟩
       ·rw[if_neg c18]at H
        exact absurd H (by simp)
      ·rw[if_neg c15]at H
       exact absurd H (by simp)
     ·rw[if_neg c14]at H
      exact absurd H (by simp)
    ·rw[if_neg c12]at H
     have c12b0:(Xr==0)=false:=beq_eq_false_iff_ne.mpr c12
     have c12b1:(Xr != 0)=true:=bne_iff_ne.mpr c12
     (first|rw[c12b0]|rw[c12b1]|rw[c12b2]|(simp only[iC,iQ];rw[c12b0])|skip)
     by_cases c21:0≤Ny
     ·rw[if_pos c21]at H
      have c21b0:=decide_eq_true c21
      clear c21
      by_cases LX:Ny<39
      ·rw[if_pos LX]at H
       have c22b0:=decide_eq_true LX
       clear LX
       obtain⟨QO,A24,H⟩:=ob H
       (try dsimp only at H)
       by_cases Gf:cO.size+QO.size≤9223372036854775807
       ·rw[if_pos Gf]at H
        have c25b0:=eq_true Gf
        have c25b1:=decide_eq_true Gf
        try have c25b2:(9223372036854775807<cO.size+QO.size)=False:=eq_false (Nat.not_lt.2 Gf)
        have H':=ah.mk H
        clear H
        have p23:0≤(Ny:Int):=of_decide_eq_true za
        have q23:Ny<(39:Int):=of_decide_eq_true za
        have aPI:=gB (⟨#[101,116,97,111,105,110,115,114,104,108,48,49,50,51,52,53,54,55,56,57,100,99,117,109,102,112,103,119,121,98,118,107,120,106,113,122,58,47,45]⟩:ByteArray) Ny
        replace p23:=eq_true p23
        replace q23:=eq_true q23
        go_wp2_with (first|((with_reducible refine gq 59 rfl ?_);refine gl (some 28) Tryz.func59 #[.int .i64 (wrap64 (bt (⟨#[101,116,97,111,105,110,115,114,104,108,48,49,50,51,52,53,54,55,56,57,100,99,117,109,102,112,103,119,121,98,118,107,120,106,113,122,58,47,45]⟩:ByteArray) Ny))] ?_;(with_reducible refine(bP.calls (wrap64 (bt (⟨#[101,116,97,111,105,110,115,114,104,108,48,49,50,51,52,53,54,55,56,57,100,99,117,109,102,112,103,119,121,98,118,107,120,106,113,122,58,47,45]⟩:ByteArray) Ny)) QO _ A24.out).mono ?_);rintro e w26 ⟨rfl,hb⟩;refine⟨_,rfl,?_⟩;replace HI0:=ah.mk (aK.below (eD HI0) hb);replace HK:=ah.mk (ay.trans (zh HK) (ay.of_below hb g none) (.inl rfl));replace HB:=ah.mk (ai (gL HB) hb);(try clear hb)))
        go_roundg k1
        case measure=>have:=jc.out;omega
        case rel=>exact⟨(cO++QO),(wrap64 (eu-1)),(afa),zs,zs,H',⟨by have:=jc.out;omega⟩,⟨eD HI0⟩,⟨zh HK⟩,⟨gL HB⟩⟩
       ·rw[if_neg Gf]at H
        exact absurd H (by simp)
      ·rw[if_neg LX]at H
       exact absurd H (by simp)
     ·rw[if_neg c21]at H
      exact absurd H (by simp)
   ·skip
    have c6b0:=decide_eq_false c6
    clear c6
    obtain⟨⟨EO,a8y⟩,A27,H⟩:=ob H
    (try dsimp only at H)
    replace H:=sp H
    rcases H with⟨c28,H⟩|⟨c28,H⟩
    ·skip
     have c28b0:(EO==0)=true:=beq_iff_eq.mpr c28
     have c28b1:(EO != 0)=false:=bne_eq_false_iff_eq.mpr c28
     clear c28
     by_cases MC:cO.size+1≤9223372036854775807
     ·rw[if_pos MC]at H
      have c29b0:=eq_true MC
      have c29b1:=decide_eq_true MC
      try have c29b2:(9223372036854775807<cO.size+1)=False:=eq_false (Nat.not_lt.2 MC)
      simp only[Option.some.injEq,Prod.mk.injEq]at H
      obtain⟨rfl,rfl⟩:=H
      go_wp2_with (first|((with_reducible refine gq 22 rfl ?_);refine gl (some 31) Tryz.func22 #[.pointer (some ⟨g,0,none⟩),.int .i64 24] ?_;(with_reducible refine(av.calls k1 g bJ iB 24 EO a8y w0 _ ?aN ?aQ A27.out).mono ?_);(case aN=>exact eD HI0);(case aQ=>exact gL HB);rintro e w30 ⟨rfl,hi,hb,hk⟩;refine⟨_,rfl,?_⟩;replace HK:=ah.mk (ay.trans (zh HK) hk (.inl rfl));replace HB:=ah.mk (hb);replace HI0:=ah.mk (hi);(try clear hb);(try clear hk);(try clear hi)))
      go_ret
      exact⟨ze,eD HI0,gL HB,zh HK⟩
     ·rw[if_neg MC]at H
      exact absurd H (by simp)
    ·skip
     have c28b0:(EO==0)=false:=beq_eq_false_iff_ne.mpr c28
     have c28b1:(EO != 0)=true:=bne_iff_ne.mpr c28
     replace H:=sp H
     rcases H with⟨c31,H⟩|⟨c31,H⟩
     ·skip
      have c31b0:(EO==1)=true:=beq_iff_eq.mpr c31
      have c31b1:(EO != 1)=false:=bne_eq_false_iff_eq.mpr c31
      clear c31
      obtain⟨⟨afc,aBW⟩,A32,H⟩:=ob H
      (try dsimp only at H)
      obtain⟨af9,A33,H⟩:=ob H
      (try dsimp only at H)
      simp only[Option.some.injEq,Prod.mk.injEq]at H
      obtain⟨rfl,rfl⟩:=H
      go_wp2_with (first|((with_reducible refine gq 22 rfl ?_);refine gl (some 31) Tryz.func22 #[.pointer (some ⟨g,0,none⟩),.int .i64 24] ?_;(with_reducible refine(av.calls k1 g bJ iB 24 EO a8y w0 _ ?aN ?aQ A27.out).mono ?_);(case aN=>exact eD HI0);(case aQ=>exact gL HB);rintro e LZ ⟨rfl,hi,hb,hk⟩;refine⟨_,rfl,?_⟩;replace HK:=ah.mk (ay.trans (zh HK) hk (.inl rfl));replace HB:=ah.mk (hb);replace HI0:=ah.mk (hi);(try clear hb);(try clear hk);(try clear hi))|((with_reducible refine gq 22 rfl ?_);refine gl (some 39) Tryz.func22 #[.pointer (some ⟨g,0,none⟩),.int .i64 4] ?_;(with_reducible refine(av.calls k1 g bJ a8y 4 afc aBW w0 _ ?aN ?aQ A32.out).mono ?_);(case aN=>exact eD HI0);(case aQ=>exact gL HB);rintro e w35 ⟨rfl,hi,hb,hk⟩;refine⟨_,rfl,?_⟩;replace HK:=ah.mk (ay.trans (zh HK) hk (.inl rfl));replace HB:=ah.mk (hb);replace HI0:=ah.mk (hi);(try clear hb);(try clear hk);(try clear hi))|((with_reducible refine gq 47 rfl ?_);refine gl (some 41) Tryz.func47 #[.string (⟨#[101]⟩:ByteArray),.int .i64 (wrap64 (15+afc))] ?_;(with_reducible refine(dB.calls k1 (⟨#[101]⟩:ByteArray) (wrap64 (15+afc)) af9 _ A33.out).mono ?_);rintro e w' ⟨rfl,⟨nd,rfl⟩⟩;refine⟨_,rfl,?_⟩))
      go_ret
      exact⟨ze,eD HI0,gL HB,zh HK⟩
     ·skip
      have c31b0:(EO==1)=false:=beq_eq_false_iff_ne.mpr c31
      have c31b1:(EO != 1)=true:=bne_iff_ne.mpr c31
      simp only[Option.some.injEq,Prod.mk.injEq]at H
      obtain⟨rfl,rfl⟩:=H
      go_wp2_with (first|((with_reducible refine gq 22 rfl ?_);refine gl (some 31) Tryz.func22 #[.pointer (some ⟨g,0,none⟩),.int .i64 24] ?_;(with_reducible refine(av.calls k1 g bJ iB 24 EO a8y w0 _ ?aN ?aQ A27.out).mono ?_);(case aN=>exact eD HI0);(case aQ=>exact gL HB);rintro e w36 ⟨rfl,hi,hb,hk⟩;refine⟨_,rfl,?_⟩;replace HK:=ah.mk (ay.trans (zh HK) hk (.inl rfl));replace HB:=ah.mk (hb);replace HI0:=ah.mk (hi);(try clear hb);(try clear hk);(try clear hi)))
      go_ret
      exact⟨ze,eD HI0,gL HB,zh HK⟩
def eT.f(k:Nat)(bJ:List Int)(gy:Int):Option (ByteArray×ByteArray×Bool×Int):=(bU.f k bJ gy (([(⟨#[58,112,97,116,104]⟩:ByteArray),(⟨#[58,115,116,97,116,117,115]⟩:ByteArray),(⟨#[107,105,110,100]⟩:ByteArray),(⟨#[115,105,122,101]⟩:ByteArray),(⟨#[116,101]⟩:ByteArray),(⟨#[97]⟩:ByteArray),(⟨#[98]⟩:ByteArray),(⟨#[107,101,121]⟩:ByteArray)]:List ByteArray))).bind fun vJ=>((bU.f k bJ vJ.2 (([(⟨#[]⟩:ByteArray),(⟨#[48]⟩:ByteArray),(⟨#[49,50]⟩:ByteArray),(⟨#[116,101,120,116]⟩:ByteArray),(⟨#[116,114,97,105,108,101,114,115]⟩:ByteArray),(⟨#[47,101,99,104,111]⟩:ByteArray),(⟨#[120]⟩:ByteArray),(⟨#[121,49]⟩:ByteArray),(⟨#[97,98,99]⟩:ByteArray)]:List ByteArray))).bind fun qG=>((av.f k bJ qG.2 8).bind fun nM=>((av.f k bJ nM.2 24).bind fun lV=>(if lV.1=0 then((bU.f k bJ lV.2 (([(⟨#[]⟩:ByteArray),(⟨#[65]⟩:ByteArray),(⟨#[97,97,97,97,97,97,97,97,97,97,97,97,97,97,97,97,97]⟩:ByteArray)]:List ByteArray))).bind fun rG=>(some (rG.1,qG.1,(nM.1==0),rG.2)))else(if lV.1=1 then((di.f k bJ lV.2).bind fun vK=>(some (vJ.1,vK.1,(nM.1==0),vK.2)))else(some (vJ.1,qG.1,(nM.1==0),lV.2)))))))
theorem eT.mono:∀a0 a1 k,gV (eT.f k a0 a1) (eT.f (k+1) a0 a1):=by
 intro a0 a1 k
 unfold eT.f
 have m0:=@bU.mono
 have m1:=@av.mono
 have m2:=@di.mono
 exact zm
theorem eT.calls(k:Nat)(g:Nat)(bJ:List Int)(gy:Int)(r1:ByteArray)(r2:ByteArray)(r3:Bool)(r4:Int)(w0 w:World)(hI:aK w0 w g bJ gy)(hB:Below w0.heap.size w0 w)(h:eT.f k bJ gy=some (r1,r2,r3,r4)):
 Calls Tryz.prog 72 #[.pointer (some ⟨g,0,none⟩)] w fun e w'=>e= .returned (.agg #[.string r1,.string r2,.bool r3])∧aK w0 w' g bJ r4∧Below w0.heap.size w0 w'∧ay w w' g none:=by
 have rZ:=Tryz.underlying89
 have HI0:=ah.mk hI
 have HK:=ah.mk (ay.refl w g none)
 have HL:=ah.mk hB.size
 clear hI
 have HW0:=ah.mk hB.size
 have HB:=ah.mk hB
 clear hB
 have H:((bU.f k bJ gy (([(⟨#[58,112,97,116,104]⟩:ByteArray),(⟨#[58,115,116,97,116,117,115]⟩:ByteArray),(⟨#[107,105,110,100]⟩:ByteArray),(⟨#[115,105,122,101]⟩:ByteArray),(⟨#[116,101]⟩:ByteArray),(⟨#[97]⟩:ByteArray),(⟨#[98]⟩:ByteArray),(⟨#[107,101,121]⟩:ByteArray)]:List ByteArray))).bind fun vJ=>((bU.f k bJ vJ.2 (([(⟨#[]⟩:ByteArray),(⟨#[48]⟩:ByteArray),(⟨#[49,50]⟩:ByteArray),(⟨#[116,101,120,116]⟩:ByteArray),(⟨#[116,114,97,105,108,101,114,115]⟩:ByteArray),(⟨#[47,101,99,104,111]⟩:ByteArray),(⟨#[120]⟩:ByteArray),(⟨#[121,49]⟩:ByteArray),(⟨#[97,98,99]⟩:ByteArray)]:List ByteArray))).bind fun qG=>((av.f k bJ qG.2 8).bind fun nM=>((av.f k bJ nM.2 24).bind fun lV=>(if lV.1=0 then((bU.f k bJ lV.2 (([(⟨#[]⟩:ByteArray),(⟨#[65]⟩:ByteArray),(⟨#[97,97,97,97,97,97,97,97,97,97,97,97,97,97,97,97,97]⟩:ByteArray)]:List ByteArray))).bind fun rG=>(some (rG.1,qG.1,(nM.1==0),rG.2)))else(if lV.1=1 then((di.f k bJ lV.2).bind fun vK=>(some (vJ.1,vK.1,(nM.1==0),vK.2)))else(some (vJ.1,qG.1,(nM.1==0),lV.2))))))))=some (r1,r2,r3,r4):=h
 clear h
 obtain⟨afd,NA⟩:∃y_:List ByteArray,y_=(([(⟨#[58,112,97,116,104]⟩:ByteArray),(⟨#[58,115,116,97,116,117,115]⟩:ByteArray),(⟨#[107,105,110,100]⟩:ByteArray),(⟨#[115,105,122,101]⟩:ByteArray),(⟨#[116,101]⟩:ByteArray),(⟨#[97]⟩:ByteArray),(⟨#[98]⟩:ByteArray),(⟨#[107,101,121]⟩:ByteArray)]:List ByteArray)):=⟨_,rfl⟩
 replace H:((bU.f k bJ gy afd).bind fun vJ=>((bU.f k bJ vJ.2 (([(⟨#[]⟩:ByteArray),(⟨#[48]⟩:ByteArray),(⟨#[49,50]⟩:ByteArray),(⟨#[116,101,120,116]⟩:ByteArray),(⟨#[116,114,97,105,108,101,114,115]⟩:ByteArray),(⟨#[47,101,99,104,111]⟩:ByteArray),(⟨#[120]⟩:ByteArray),(⟨#[121,49]⟩:ByteArray),(⟨#[97,98,99]⟩:ByteArray)]:List ByteArray))).bind fun qG=>((av.f k bJ qG.2 8).bind fun nM=>((av.f k bJ nM.2 24).bind fun lV=>(if lV.1=0 then((bU.f k bJ lV.2 (([(⟨#[]⟩:ByteArray),(⟨#[65]⟩:ByteArray),(⟨#[97,97,97,97,97,97,97,97,97,97,97,97,97,97,97,97,97]⟩:ByteArray)]:List ByteArray))).bind fun rG=>(some (rG.1,qG.1,(nM.1==0),rG.2)))else(if lV.1=1 then((di.f k bJ lV.2).bind fun vK=>(some (vJ.1,vK.1,(nM.1==0),vK.2)))else(some (vJ.1,qG.1,(nM.1==0),lV.2))))))))=some (r1,r2,r3,r4):=by first|(rw[NA];with_reducible exact H)|(have fF:=(Option.bind_some _ _).symm.trans H;rw[NA];with_reducible exact fF)|(have fF:=(Option.bind_some _ _).symm.trans H;with_reducible exact fF)|with_reducible exact H|(rw[NA];exact H)|exact H
 have abP:=ah.mk NA
 clear NA
 obtain⟨⟨K7,a0R⟩,A2,H⟩:=ob H
 (try dsimp only at H)
 obtain⟨afe,NC⟩:∃y_:List ByteArray,y_=(([(⟨#[]⟩:ByteArray),(⟨#[48]⟩:ByteArray),(⟨#[49,50]⟩:ByteArray),(⟨#[116,101,120,116]⟩:ByteArray),(⟨#[116,114,97,105,108,101,114,115]⟩:ByteArray),(⟨#[47,101,99,104,111]⟩:ByteArray),(⟨#[120]⟩:ByteArray),(⟨#[121,49]⟩:ByteArray),(⟨#[97,98,99]⟩:ByteArray)]:List ByteArray)):=⟨_,rfl⟩
 replace H:((bU.f k bJ a0R afe).bind fun qG=>((av.f k bJ qG.2 8).bind fun nM=>((av.f k bJ nM.2 24).bind fun lV=>(if lV.1=0 then((bU.f k bJ lV.2 (([(⟨#[]⟩:ByteArray),(⟨#[65]⟩:ByteArray),(⟨#[97,97,97,97,97,97,97,97,97,97,97,97,97,97,97,97,97]⟩:ByteArray)]:List ByteArray))).bind fun rG=>(some (rG.1,qG.1,(nM.1==0),rG.2)))else(if lV.1=1 then((di.f k bJ lV.2).bind fun vK=>(some (K7,vK.1,(nM.1==0),vK.2)))else(some (K7,qG.1,(nM.1==0),lV.2)))))))=some (r1,r2,r3,r4):=by first|(rw[NC];with_reducible exact H)|(have fF:=(Option.bind_some _ _).symm.trans H;rw[NC];with_reducible exact fF)|(have fF:=(Option.bind_some _ _).symm.trans H;with_reducible exact fF)|with_reducible exact H|(rw[NC];exact H)|exact H
 have abQ:=ah.mk NC
 clear NC
 obtain⟨⟨ND,Xt⟩,A3,H⟩:=ob H
 (try dsimp only at H)
 obtain⟨⟨NE,a8z⟩,A4,H⟩:=ob H
 (try dsimp only at H)
 obtain⟨⟨K8,K9⟩,A5,H⟩:=ob H
 (try dsimp only at H)
 have HC6:=ah.mk H
 clear H
 go_enter Tryz.func72,Tryz.ntmps72
 go_upto_if 17 with(first|((with_reducible refine gd 2 rfl ?_);refine bx (N:=2) (cs:=#[.string (⟨#[]⟩:ByteArray),.string (⟨#[]⟩:ByteArray),.bool false]) (t:=89) ?_;intro rH hg w7 hbox hb;replace HB:=ah.mk (ai (gL HB) hb);have kE:=ah.mk (hbox);have aL3:=ah.mk ((by rw[hg];exact(gH (w:=w) (g:=g) (row:=none) (zh HK)):w.heap.size≤rH));have aL4:=ah.mk ((Nat.le_trans HW0.out (by rw[hg];exact(gH (w:=w) (g:=g) (row:=none) (zh HK)):w.heap.size≤rH):w0.heap.size≤rH));replace HK:=ah.mk (ay.trans (zh HK) (ay.of_below hb g none) (.inl rfl));have Ka:=ah.mk ((by rw[hg];exact Nat.ne_of_lt (aK.lt (show aK w0 _ g bJ gy from eD HI0)):g≠rH));have qf:=ah.mk ((by rw[hg];exact Nat.ne_of_gt (aK.lt (show aK w0 _ g bJ gy from eD HI0)):rH≠g));replace HI0:=ah.mk (aK.below (eD HI0) hb);clear hb hbox hg)|((with_reducible refine gd 5 rfl ?_);refine Kd.R_lit Kd.string _ 9 ?hg (N:=5) ?hd (xs:=([(⟨#[58,112,97,116,104]⟩:ByteArray),(⟨#[58,115,116,97,116,117,115]⟩:ByteArray),(⟨#[107,105,110,100]⟩:ByteArray),(⟨#[115,105,122,101]⟩:ByteArray),(⟨#[116,101]⟩:ByteArray),(⟨#[97]⟩:ByteArray),(⟨#[98]⟩:ByteArray),(⟨#[107,101,121]⟩:ByteArray)]:List ByteArray)) (inner:=[.string (⟨#[58,112,97,116,104]⟩:ByteArray),.string (⟨#[58,115,116,97,116,117,115]⟩:ByteArray),.string (⟨#[107,105,110,100]⟩:ByteArray),.string (⟨#[115,105,122,101]⟩:ByteArray),.string (⟨#[116,101]⟩:ByteArray),.string (⟨#[97]⟩:ByteArray),.string (⟨#[98]⟩:ByteArray),.string (⟨#[107,101,121]⟩:ByteArray)]) (ok:=fun _=>True) (okp:=fun _=>True) ?hr ?hp (fun _ hk=>hk) trivial (Below.refl _ _) (Nat.le_refl _) (by simp) ?_;(case hd=>rfl);(case hg=>rfl);(case hr=>first|(go_simp;done)|(go_simp;rfl));(case hp=>exact(dm.one (show Kd.M Kd.string _ _ _ (⟨#[58,112,97,116,104]⟩:ByteArray) [.string (⟨#[58,112,97,116,104]⟩:ByteArray)]from rfl) (dm.one (show Kd.M Kd.string _ _ _ (⟨#[58,115,116,97,116,117,115]⟩:ByteArray) [.string (⟨#[58,115,116,97,116,117,115]⟩:ByteArray)]from rfl) (dm.one (show Kd.M Kd.string _ _ _ (⟨#[107,105,110,100]⟩:ByteArray) [.string (⟨#[107,105,110,100]⟩:ByteArray)]from rfl) (dm.one (show Kd.M Kd.string _ _ _ (⟨#[115,105,122,101]⟩:ByteArray) [.string (⟨#[115,105,122,101]⟩:ByteArray)]from rfl) (dm.one (show Kd.M Kd.string _ _ _ (⟨#[116,101]⟩:ByteArray) [.string (⟨#[116,101]⟩:ByteArray)]from rfl) (dm.one (show Kd.M Kd.string _ _ _ (⟨#[97]⟩:ByteArray) [.string (⟨#[97]⟩:ByteArray)]from rfl) (dm.one (show Kd.M Kd.string _ _ _ (⟨#[98]⟩:ByteArray) [.string (⟨#[98]⟩:ByteArray)]from rfl) (dm.one (show Kd.M Kd.string _ _ _ (⟨#[107,101,121]⟩:ByteArray) [.string (⟨#[107,101,121]⟩:ByteArray)]from rfl) (dm.none _ _))))))))));intro aPK w8 MQ hb nE fM;clear nE fM;(first|rw[←abP.out]at MQ|(simp only[Int.reduceToNat]at MQ;rw[←abP.out]at MQ));have lG:=ah.mk (Kd.R_lower MQ (gH (w:=w) (g:=g) (row:=none) (zh HK)));replace HI0:=ah.mk (aK.below (eD HI0) hb);replace kE:=kb kE hb;replace HK:=ah.mk (ay.trans (zh HK) (ay.of_below hb g none) (.inl rfl));replace HB:=ah.mk (ai (gL HB) hb);clear hb MQ;obtain⟨BD,yG,Xu⟩:=Kd.R_slice lG.out;subst Xu)|((with_reducible refine gq 80 rfl ?_);refine gl (some 6) Tryz.func80 #[.pointer (some ⟨g,0,none⟩),.slice BD afd.length yG] ?_;(with_reducible refine(bU.calls k g bJ gy _ _ afd K7 a0R w0 _ ?aN ?aQ ?zH ?zI ?zJ A2.out).mono ?_);(case aN=>exact eD HI0);(case aQ=>exact gL HB);(case zH=>exact zc (Kd.R_reads' lG.out).2.2);(case zI=>exact(Kd.R_reads' lG.out).2.1);(case zJ=>exact sN (aK.own_ne HI0.out lG.out (by decide)));rintro e w11 ⟨rfl,hi,hb,hk⟩;refine⟨_,rfl,?_⟩;replace kE:=ah.mk (ay.blk hk (g':=rH) (o:=.cells #[.string (⟨#[]⟩:ByteArray),.string (⟨#[]⟩:ByteArray),.bool false] 89 (0,0)) (zk kE) qf.out (by simp));replace lG:=ah.mk (Kd.R_mono (Kd.R_keep (aK.apart (show aK w0 _ g bJ gy from eD HI0) (zr lG) (by decide)) hk (fun _ h=>h.2)) (fun _ h=>h.1));replace HK:=ah.mk (ay.trans (zh HK) hk (.inl rfl));replace HB:=ah.mk (hb);replace HI0:=ah.mk (hi);(try clear hb);(try clear hk);(try clear hi))|((with_reducible refine gd 8 rfl ?_);refine Kd.R_lit Kd.string _ 9 ?hg (N:=8) ?hd (xs:=([(⟨#[]⟩:ByteArray),(⟨#[48]⟩:ByteArray),(⟨#[49,50]⟩:ByteArray),(⟨#[116,101,120,116]⟩:ByteArray),(⟨#[116,114,97,105,108,101,114,115]⟩:ByteArray),(⟨#[47,101,99,104,111]⟩:ByteArray),(⟨#[120]⟩:ByteArray),(⟨#[121,49]⟩:ByteArray),(⟨#[97,98,99]⟩:ByteArray)]:List ByteArray)) (inner:=[.string (⟨#[]⟩:ByteArray),.string (⟨#[48]⟩:ByteArray),.string (⟨#[49,50]⟩:ByteArray),.string (⟨#[116,101,120,116]⟩:ByteArray),.string (⟨#[116,114,97,105,108,101,114,115]⟩:ByteArray),.string (⟨#[47,101,99,104,111]⟩:ByteArray),.string (⟨#[120]⟩:ByteArray),.string (⟨#[121,49]⟩:ByteArray),.string (⟨#[97,98,99]⟩:ByteArray)]) (ok:=fun _=>True) (okp:=fun _=>True) ?hr ?hp (fun _ hk=>hk) trivial (Below.refl _ _) (Nat.le_refl _) (by simp) ?_;(case hd=>rfl);(case hg=>rfl);(case hr=>first|(go_simp;done)|(go_simp;rfl));(case hp=>exact(dm.one (show Kd.M Kd.string _ _ _ (⟨#[]⟩:ByteArray) [.string (⟨#[]⟩:ByteArray)]from rfl) (dm.one (show Kd.M Kd.string _ _ _ (⟨#[48]⟩:ByteArray) [.string (⟨#[48]⟩:ByteArray)]from rfl) (dm.one (show Kd.M Kd.string _ _ _ (⟨#[49,50]⟩:ByteArray) [.string (⟨#[49,50]⟩:ByteArray)]from rfl) (dm.one (show Kd.M Kd.string _ _ _ (⟨#[116,101,120,116]⟩:ByteArray) [.string (⟨#[116,101,120,116]⟩:ByteArray)]from rfl) (dm.one (show Kd.M Kd.string _ _ _ (⟨#[116,114,97,105,108,101,114,115]⟩:ByteArray) [.string (⟨#[116,114,97,105,108,101,114,115]⟩:ByteArray)]from rfl) (dm.one (show Kd.M Kd.string _ _ _ (⟨#[47,101,99,104,111]⟩:ByteArray) [.string (⟨#[47,101,99,104,111]⟩:ByteArray)]from rfl) (dm.one (show Kd.M Kd.string _ _ _ (⟨#[120]⟩:ByteArray) [.string (⟨#[120]⟩:ByteArray)]from rfl) (dm.one (show Kd.M Kd.string _ _ _ (⟨#[121,49]⟩:ByteArray) [.string (⟨#[121,49]⟩:ByteArray)]from rfl) (dm.one (show Kd.M Kd.string _ _ _ (⟨#[97,98,99]⟩:ByteArray) [.string (⟨#[97,98,99]⟩:ByteArray)]from rfl) (dm.none _ _)))))))))));intro aPL Xm uz hb nE fM;clear nE fM;(first|rw[←abQ.out]at uz|(simp only[Int.reduceToNat]at uz;rw[←abQ.out]at uz));have nN:=ah.mk (Kd.R_lower (Kd.R_new' uz (Kd.R_lt (zr lG))) (gH (w:=w) (g:=g) (row:=none) (zh HK)));replace lG:=ah.mk (Kd.R_elder' (zr lG) (Kd.R_base uz) hb);replace HI0:=ah.mk (aK.below (eD HI0) hb);replace kE:=kb kE hb;replace HK:=ah.mk (ay.trans (zh HK) (ay.of_below hb g none) (.inl rfl));replace HB:=ah.mk (ai (gL HB) hb);clear hb uz;obtain⟨af6,af7,af8⟩:=Kd.R_slice nN.out;subst af8)|((with_reducible refine gq 80 rfl ?_);refine gl (some 9) Tryz.func80 #[.pointer (some ⟨g,0,none⟩),.slice af6 afe.length af7] ?_;(with_reducible refine(bU.calls k g bJ a0R _ _ afe ND Xt w0 _ ?aN ?aQ ?zH ?zI ?zJ A3.out).mono ?_);(case aN=>exact eD HI0);(case aQ=>exact gL HB);(case zH=>exact zc (Kd.R_reads' nN.out).2.2);(case zI=>exact(Kd.R_reads' nN.out).2.1);(case zJ=>exact sN (aK.own_ne HI0.out nN.out (by decide)));rintro e w15 ⟨rfl,hi,hb,hk⟩;refine⟨_,rfl,?_⟩;replace kE:=ah.mk (ay.blk hk (g':=rH) (o:=.cells #[.string (⟨#[]⟩:ByteArray),.string (⟨#[]⟩:ByteArray),.bool false] 89 (0,0)) (zk kE) qf.out (by simp));replace lG:=ah.mk (Kd.R_mono (Kd.R_keep (aK.apart (show aK w0 _ g bJ a0R from eD HI0) (zr lG) (by decide)) hk (fun _ h=>h.2)) (fun _ h=>h.1));replace nN:=ah.mk (Kd.R_mono (Kd.R_keep (aK.apart (show aK w0 _ g bJ a0R from eD HI0) (zr nN) (by decide)) hk (fun _ h=>h.2)) (fun _ h=>h.1));replace HK:=ah.mk (ay.trans (zh HK) hk (.inl rfl));replace HB:=ah.mk (hb);replace HI0:=ah.mk (hi);(try clear hb);(try clear hk);(try clear hi))|((with_reducible refine gd 3 rfl ?_);refine bx (N:=3) (cs:=#[.string (⟨#[]⟩:ByteArray),.string (⟨#[]⟩:ByteArray),.bool false]) (t:=89) ?_;intro Af hg w16 hbox hb;replace lG:=ah.mk (Kd.R_below (zr lG) hb);replace nN:=ah.mk (Kd.R_below (zr nN) hb);replace HB:=ah.mk (ai (gL HB) hb);have nO:=ah.mk (hbox);have aL5:=ah.mk ((by rw[hg];exact(gH (w:=w) (g:=g) (row:=none) (zh HK)):w.heap.size≤Af));have aL6:=ah.mk ((Nat.le_trans HW0.out (by rw[hg];exact(gH (w:=w) (g:=g) (row:=none) (zh HK)):w.heap.size≤Af):w0.heap.size≤Af));replace HK:=ah.mk (ay.trans (zh HK) (ay.of_below hb g none) (.inl rfl));obtain⟨wM,wN⟩:=nb kE hg;replace kE:=kb kE hb;have DU:=ah.mk ((by rw[hg];exact Nat.ne_of_lt (aK.lt (show aK w0 _ g bJ Xt from eD HI0)):g≠Af));have rJ:=ah.mk ((by rw[hg];exact Nat.ne_of_gt (aK.lt (show aK w0 _ g bJ Xt from eD HI0)):Af≠g));replace HI0:=ah.mk (aK.below (eD HI0) hb);clear hb hbox hg;have aL7:=wN.out;have aL8:=wM.out;have abR:=rJ.out;have abS:=DU.out;obtain⟨UH,UI,UJ,UK,UL,UM⟩:=c3 nO)|((with_reducible refine gq 22 rfl ?_);refine gl (some 12) Tryz.func22 #[.pointer (some ⟨g,0,none⟩),.int .i64 8] ?_;(with_reducible refine(av.calls k g bJ Xt 8 NE a8z w0 _ ?aN ?aQ A4.out).mono ?_);(case aN=>exact eD HI0);(case aQ=>exact gL HB);rintro e w20 ⟨rfl,hi,hb,hk⟩;refine⟨_,rfl,?_⟩;replace kE:=ah.mk (ay.blk hk (g':=rH) (o:=.cells #[.string (⟨#[]⟩:ByteArray),.string (⟨#[]⟩:ByteArray),.bool false] 89 (0,0)) (zp kE) qf.out (by simp));replace lG:=ah.mk (Kd.R_mono (Kd.R_keep (aK.apart (show aK w0 _ g bJ Xt from eD HI0) (((Kd.R_mono (qb (Kd.R_types lG.out nO.out (by decide))) (fun _ h_=>h_.1)))) (by decide)) hk (fun _ h=>h.2)) (fun _ h=>h.1));replace nN:=ah.mk (Kd.R_mono (Kd.R_keep (aK.apart (show aK w0 _ g bJ Xt from eD HI0) (((Kd.R_mono (qb (Kd.R_types nN.out nO.out (by decide))) (fun _ h_=>h_.1)))) (by decide)) hk (fun _ h=>h.2)) (fun _ h=>h.1));replace nO:=ah.mk (ay.blk hk (g':=Af) (o:=.cells #[.string K7,.string ND,.bool false] 89 (0,0)) (zp nO) rJ.out (by simp));replace HK:=ah.mk (ay.trans (zh HK) hk (.inl rfl));replace HB:=ah.mk (hb);replace HI0:=ah.mk (hi);(try clear hb);(try clear hk);(try clear hi);obtain⟨JG,JH,a6U,Uv,JI,a6V⟩:=c3 nO)|((with_reducible refine gq 22 rfl ?_);refine gl (some 16) Tryz.func22 #[.pointer (some ⟨g,0,none⟩),.int .i64 24] ?_;(with_reducible refine(av.calls k g bJ a8z 24 K8 K9 w0 _ ?aN ?aQ A5.out).mono ?_);(case aN=>exact eD HI0);(case aQ=>exact gL HB);rintro e w22 ⟨rfl,hi,hb,hk⟩;refine⟨_,rfl,?_⟩;replace kE:=ah.mk (ay.blk hk (g':=rH) (o:=.cells #[.string (⟨#[]⟩:ByteArray),.string (⟨#[]⟩:ByteArray),.bool false] 89 (0,0)) (zp kE) qf.out (by simp));replace lG:=ah.mk (Kd.R_mono (Kd.R_keep (aK.apart (show aK w0 _ g bJ a8z from eD HI0) (((Kd.R_mono (qb (Kd.R_types lG.out nO.out (by decide))) (fun _ h_=>h_.1)))) (by decide)) hk (fun _ h=>h.2)) (fun _ h=>h.1));replace nN:=ah.mk (Kd.R_mono (Kd.R_keep (aK.apart (show aK w0 _ g bJ a8z from eD HI0) (((Kd.R_mono (qb (Kd.R_types nN.out nO.out (by decide))) (fun _ h_=>h_.1)))) (by decide)) hk (fun _ h=>h.2)) (fun _ h=>h.1));replace nO:=ah.mk (ay.blk hk (g':=Af) (o:=.cells #[.string K7,.string ND,.bool (NE==0)] 89 (0,0)) (zp nO) rJ.out (by simp));replace HK:=ah.mk (ay.trans (zh HK) hk (.inl rfl));replace HB:=ah.mk (hb);replace HI0:=ah.mk (hi);(try clear hb);(try clear hk);(try clear hi)))
 (try simp only[Act.put,s1,s2,s3])
 have H:=HC6.out
 clear HC6
 replace H:=sp H
 rcases H with⟨c23,H⟩|⟨c23,H⟩
 ·skip
  have c23b0:(K8==0)=true:=beq_iff_eq.mpr c23
  have c23b1:(K8 != 0)=false:=bne_eq_false_iff_eq.mpr c23
  clear c23
  (first|rw[c23b0]|rw[c23b1]|rw[c23b2]|(simp only[iC,iQ];rw[c23b0])|skip)
  obtain⟨aff,NF⟩:∃y_:List ByteArray,y_=(([(⟨#[]⟩:ByteArray),(⟨#[65]⟩:ByteArray),(⟨#[97,97,97,97,97,97,97,97,97,97,97,97,97,97,97,97,97]⟩:ByteArray)]:List ByteArray)):=⟨_,rfl⟩
  replace H:((bU.f k bJ K9 aff).bind fun rG=>(some (rG.1,ND,(NE==0),rG.2)))=some (r1,r2,r3,r4):=by first|(rw[NF];with_reducible exact H)|(have fF:=(Option.bind_some _ _).symm.trans H;rw[NF];with_reducible exact fF)|(have fF:=(Option.bind_some _ _).symm.trans H;with_reducible exact fF)|with_reducible exact H|(rw[NF];exact H)|exact H
  have abT:=ah.mk NF
  clear NF
  obtain⟨⟨alT,aBZ⟩,A24,H⟩:=ob H
  (try dsimp only at H)
  simp only[Option.some.injEq,Prod.mk.injEq]at H
  obtain⟨rfl,rfl,rfl,rfl⟩:=H
  go_wp2_with (first|((with_reducible refine gd 20 rfl ?_);refine Kd.R_lit Kd.string _ 9 ?hg (N:=20) ?hd (xs:=([(⟨#[]⟩:ByteArray),(⟨#[65]⟩:ByteArray),(⟨#[97,97,97,97,97,97,97,97,97,97,97,97,97,97,97,97,97]⟩:ByteArray)]:List ByteArray)) (inner:=[.string (⟨#[]⟩:ByteArray),.string (⟨#[65]⟩:ByteArray),.string (⟨#[97,97,97,97,97,97,97,97,97,97,97,97,97,97,97,97,97]⟩:ByteArray)]) (ok:=fun _=>True) (okp:=fun _=>True) ?hr ?hp (fun _ hk=>hk) trivial (Below.refl _ _) (Nat.le_refl _) (by simp) ?_;(case hd=>rfl);(case hg=>rfl);(case hr=>first|(go_simp;done)|(go_simp;rfl));(case hp=>exact(dm.one (show Kd.M Kd.string _ _ _ (⟨#[]⟩:ByteArray) [.string (⟨#[]⟩:ByteArray)]from rfl) (dm.one (show Kd.M Kd.string _ _ _ (⟨#[65]⟩:ByteArray) [.string (⟨#[65]⟩:ByteArray)]from rfl) (dm.one (show Kd.M Kd.string _ _ _ (⟨#[97,97,97,97,97,97,97,97,97,97,97,97,97,97,97,97,97]⟩:ByteArray) [.string (⟨#[97,97,97,97,97,97,97,97,97,97,97,97,97,97,97,97,97]⟩:ByteArray)]from rfl) (dm.none _ _)))));intro aPM w25 QR hb nE fM;clear nE fM;(first|rw[←abT.out]at QR|(simp only[Int.reduceToNat]at QR;rw[←abT.out]at QR));have GV:=ah.mk (Kd.R_lower (Kd.R_new' (Kd.R_new' QR (Kd.R_lt (zr lG))) (Kd.R_lt (zr nN))) (gH (w:=w) (g:=g) (row:=none) (zh HK)));replace lG:=ah.mk (Kd.R_elder' (zr lG) (Kd.R_base QR) hb);replace nN:=ah.mk (Kd.R_elder' (zr nN) (Kd.R_base QR) hb);replace HI0:=ah.mk (aK.below (eD HI0) hb);replace kE:=kb kE hb;replace nO:=kb nO hb;replace HK:=ah.mk (ay.trans (zh HK) (ay.of_below hb g none) (.inl rfl));replace HB:=ah.mk (ai (gL HB) hb);clear hb QR;obtain⟨aC0,aC1,aC2⟩:=Kd.R_slice GV.out;subst aC2)|((with_reducible refine gq 80 rfl ?_);refine gl (some 21) Tryz.func80 #[.pointer (some ⟨g,0,none⟩),.slice aC0 aff.length aC1] ?_;(with_reducible refine(bU.calls k g bJ K9 _ _ aff alT aBZ w0 _ ?aN ?aQ ?zH ?zI ?zJ A24.out).mono ?_);(case aN=>exact eD HI0);(case aQ=>exact gL HB);(case zH=>exact zc (Kd.R_reads' GV.out).2.2);(case zI=>exact(Kd.R_reads' GV.out).2.1);(case zJ=>exact sN (aK.own_ne HI0.out GV.out (by decide)));rintro e w28 ⟨rfl,hi,hb,hk⟩;refine⟨_,rfl,?_⟩;replace kE:=ah.mk (ay.blk hk (g':=rH) (o:=.cells #[.string (⟨#[]⟩:ByteArray),.string (⟨#[]⟩:ByteArray),.bool false] 89 (0,0)) (zk kE) qf.out (by simp));replace lG:=ah.mk (Kd.R_mono (Kd.R_keep (aK.apart (show aK w0 _ g bJ K9 from eD HI0) (zr lG) (by decide)) hk (fun _ h=>h.2)) (fun _ h=>h.1));replace nN:=ah.mk (Kd.R_mono (Kd.R_keep (aK.apart (show aK w0 _ g bJ K9 from eD HI0) (zr nN) (by decide)) hk (fun _ h=>h.2)) (fun _ h=>h.1));replace nO:=ah.mk (ay.blk hk (g':=Af) (o:=.cells #[.string K7,.string ND,.bool (NE==0)] 89 (0,0)) (zk nO) rJ.out (by simp));replace GV:=ah.mk (Kd.R_mono (Kd.R_keep (aK.apart (show aK w0 _ g bJ K9 from eD HI0) (zr GV) (by decide)) hk (fun _ h=>h.2)) (fun _ h=>h.1));replace HK:=ah.mk (ay.trans (zh HK) hk (.inl rfl));replace HB:=ah.mk (hb);replace HI0:=ah.mk (hi);(try clear hb);(try clear hk);(try clear hi);have alU:=wN.out;have alV:=wM.out;have abU:=rJ.out;have abV:=DU.out;obtain⟨Dl,Dm,Dn,Dp,Dq,Dr⟩:=c3 nO;have abW:=qf.out;have abX:=Ka.out;obtain⟨yY,yZ,z8,zf,zi,zl⟩:=c3 kE))
  refine bodyPost_ret (results_cell_row rfl _ _ rH 89 #[.string alT,.string ND,.bool (NE==0)] (0,0) _ rfl (zp kE) Tryz.underlying89 rfl (by kernel_rfl)) rfl ?_
  exact⟨ze,eD HI0,gL HB,zh HK⟩
 ·skip
  have c23b0:(K8==0)=false:=beq_eq_false_iff_ne.mpr c23
  have c23b1:(K8 != 0)=true:=bne_iff_ne.mpr c23
  (first|rw[c23b0]|rw[c23b1]|rw[c23b2]|(simp only[iC,iQ];rw[c23b0])|skip)
  replace H:=sp H
  rcases H with⟨c34,H⟩|⟨c34,H⟩
  ·skip
   have c34b0:(K8==1)=true:=beq_iff_eq.mpr c34
   have c34b1:(K8 != 1)=false:=bne_eq_false_iff_eq.mpr c34
   clear c34
   obtain⟨⟨alW,aC3⟩,A35,H⟩:=ob H
   (try dsimp only at H)
   simp only[Option.some.injEq,Prod.mk.injEq]at H
   obtain⟨rfl,rfl,rfl,rfl⟩:=H
   go_wp2_with (first|((with_reducible refine gq 58 rfl ?_);refine gl (some 26) Tryz.func58 #[.pointer (some ⟨g,0,none⟩)] ?_;(with_reducible refine(di.calls k g bJ K9 alW aC3 w0 _ ?aN ?aQ A35.out).mono ?_);(case aN=>exact eD HI0);(case aQ=>exact gL HB);rintro e w36 ⟨rfl,hi,hb,hk⟩;refine⟨_,rfl,?_⟩;replace kE:=ah.mk (ay.blk hk (g':=rH) (o:=.cells #[.string (⟨#[]⟩:ByteArray),.string (⟨#[]⟩:ByteArray),.bool false] 89 (0,0)) (zk kE) qf.out (by simp));replace lG:=ah.mk (Kd.R_mono (Kd.R_keep (aK.apart (show aK w0 _ g bJ K9 from eD HI0) (zr lG) (by decide)) hk (fun _ h=>h.2)) (fun _ h=>h.1));replace nN:=ah.mk (Kd.R_mono (Kd.R_keep (aK.apart (show aK w0 _ g bJ K9 from eD HI0) (zr nN) (by decide)) hk (fun _ h=>h.2)) (fun _ h=>h.1));replace nO:=ah.mk (ay.blk hk (g':=Af) (o:=.cells #[.string K7,.string ND,.bool (NE==0)] 89 (0,0)) (zk nO) rJ.out (by simp));replace HK:=ah.mk (ay.trans (zh HK) hk (.inl rfl));replace HB:=ah.mk (hb);replace HI0:=ah.mk (hi);(try clear hb);(try clear hk);(try clear hi);have a0S:=wN.out;have a0T:=wM.out;have alX:=rJ.out;have alY:=DU.out;obtain⟨Jl,Jm,Jo,Jp,Jq,Jr⟩:=c3 nO;have aL9:=qf.out;have aLa:=Ka.out;obtain⟨Js,Jt,Ju,Jv,Jw,Jy⟩:=c3 kE))
   refine bodyPost_ret (results_cell_row rfl _ _ rH 89 #[.string K7,.string alW,.bool (NE==0)] (0,0) _ rfl (zp kE) Tryz.underlying89 rfl (by kernel_rfl)) rfl ?_
   exact⟨ze,eD HI0,gL HB,zh HK⟩
  ·skip
   have c34b0:(K8==1)=false:=beq_eq_false_iff_ne.mpr c34
   have c34b1:(K8 != 1)=true:=bne_iff_ne.mpr c34
   simp only[Option.some.injEq,Prod.mk.injEq]at H
   obtain⟨rfl,rfl,rfl,rfl⟩:=H
   have abY:=wN.out
   have abZ:=wM.out
   have ac0:=rJ.out
   have ac1:=DU.out
   obtain⟨Vj,Vk,auc,Vl,Vm,aud⟩:=c3 nO
   have alZ:=qf.out
   have am0:=Ka.out
   obtain⟨a7t,a7u,a7v,a7w,a7x,a7y⟩:=c3 kE
   go_wp2
   refine bodyPost_ret (results_cell_row rfl _ _ rH 89 #[.string K7,.string ND,.bool (NE==0)] (0,0) _ rfl (zp kE) Tryz.underlying89 rfl (by kernel_rfl)) rfl ?_
   exact⟨ze,eD HI0,gL HB,zh HK⟩
end Go.Proofs.YtokblgdgpnakpaaGreat.PFnEndLess
