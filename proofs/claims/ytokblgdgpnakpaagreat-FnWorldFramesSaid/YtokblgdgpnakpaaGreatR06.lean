/- FnWorldFrames holds: part 6 of a proof that the given program meets it (printed texts and walks of our own, made short by a program). No condition. -/
import Derived.Test.YtokblgdgpnakpaaGreatR05
import Derived.Deep.Upon
set_option linter.unusedVariables false
set_option linter.unusedSimpArgs false
set_option maxHeartbeats 8000000
set_option maxRecDepth 100000
namespace Go.Proofs.YtokblgdgpnakpaaGreat.PFnEndLess
open Go.RowKit Go.Proofs.YtokblgdgpnakpaaGreatW.PrintWords Go.Proofs.YtokblgdgpnakpaaGreatW.PrintLast Go.Proofs.YtokblgdgpnakpaaGreatW.PrintMore Go.Proofs.YtokblgdgpnakpaaGreat.Lm
open Go.Proofs.YtokblgdgpnakpaaGreat.Pure
attribute [local go_sem] bA bn bV bW aW aV bE bF
theorem Ls(c news:List Value)(n m w i:Nat)(hn:n*w+m*w≤c.length∨c.length=n*w)(hl:news.length=m*w)(z:List Value)(hz:z=c.drop (n*w+m*w)∨c.length=n*w)(hi:i<n+m∨z=c.drop (n*w+m*w)∧n*w+m*w≤c.length):
 seg (c.take (n*w)++news++z).toArray i w=if i<n then seg c.toArray i w else if i<n+m then seg news.toArray (i-n) w else seg c.toArray i w:=by
 apply List.ext_getElem?
 intro q
 unfold seg
 split
 ·rename_i h
  have:(i+1)*w≤n*w:=Nat.mul_le_mul_right _ h
  rw[Nat.add_mul,Nat.one_mul]at this
  simp only[List.getElem?_take,List.getElem?_drop,List.getElem?_append,List.length_append,List.length_take]
  by_cases h1:q<w
  ·have e1:i*w+q<min (n*w) c.length+news.length:=by omega
   have e2:i*w+q<min (n*w) c.length:=by omega
   have e3:i*w+q<n*w:=by omega
   simp only[h1,e1,e2,e3,if_true]
  ·simp only[h1,if_false]
 ·rename_i h
  split
  ·rename_i h2
   have a1:n*w≤i*w:=Nat.mul_le_mul_right _ (by omega)
   have a2:(i+1)*w≤(n+m)*w:=Nat.mul_le_mul_right _ (by omega)
   have a3:(i-n)*w=i*w-n*w:=Nat.sub_mul _ _ _
   rw[Nat.add_mul,Nat.one_mul,Nat.add_mul]at a2
   simp only[List.getElem?_take,List.getElem?_drop,List.getElem?_append,List.length_append,List.length_take]
   by_cases h1:q<w
   ·have e1:i*w+q<min (n*w) c.length+news.length:=by omega
    have e2:¬i*w+q<min (n*w) c.length:=by omega
    simp only[h1,e1,e2,if_true,if_false]
    congr 1;omega
   ·simp only[h1,if_false]
  ·rename_i h2
   obtain⟨hz',hc'⟩:z=c.drop (n*w+m*w)∧n*w+m*w≤c.length:=by
    rcases hi with hi|hi
    ·exact absurd hi h2
    ·exact hi
   subst hz'
   have a1:(n+m)*w≤i*w:=Nat.mul_le_mul_right _ (by omega)
   rw[Nat.add_mul]at a1
   simp only[List.getElem?_take,List.getElem?_drop,List.getElem?_append,List.length_append,List.length_take]
   by_cases h1:q<w
   ·have e1:¬i*w+q<min (n*w) c.length+news.length:=by omega
    simp only[h1,e1,if_true,if_false]
    congr 1;omega
   ·simp only[h1,if_false]
theorem Below.drew0(w:World)(o:Obj):Below w.heap.size w (w.drew.alloc o):=eY (qF (Below.refl _ _)) o
section
variable {P:Program} {b:Nat} {X:Nat→Prop} {M:Nat→Nat→Prop} {W:World}
theorem Lu{t ty T bytes N:Nat}{i:TypeInfo}{z:Value}{A0:Option Addr}{n0 c0:Nat}(ht:P.underlying t=some (.slice T))(hi:P.info? T=some i)(hz:i.zero=some z)(hsize:i.size=wide T)(hby:i.bytes=bytes)(hzs:z.cells.size=wide T)(hT:T≠89)
 (hw:TW b M W)(hb:b≤W.heap.size)(HS:SL M W T (.slice A0 n0 c0) N){ad:Addr}{m c:Nat}{news:List Value}(hl:news.length=m*wide T)(hnews:∀j u,news[j]?=some u→W.cell? (ad.add j)=some u)(h1:∀u∈news,u.oneCell'=true)(h0:0<m)
 (hE:∀i,i<m→Elem b W T (seg news.toArray i (wide T)))(hbytes:(N+m)*bytes≤140737488355328)(h63:N+m≤maxLen):
 ∃A' c' w' M',(Builtin.append_ #[t,t] ty #[.slice A0 n0 c0,.slice (some ad) m c]).run P W= .ok (.slice A' (n0+m) c') w'∧TS b (fun _=>False) M W M' w'∧SL M' w' T (.slice A' (n0+m) c') (N+m):=by
 subst hby
 obtain⟨A,n,cap,e0,hnN,hcase⟩:=HS
 injection e0 with e01 e02 e03
 replace e01:=e01.symm
 replace e02:=e02.symm
 replace e03:=e03.symm
 subst e01 e02 e03
 have hnb:(n+m)*i.bytes≤140737488355328:=Nat.le_trans (Nat.mul_le_mul_right _ (by omega)) hbytes
 have hmx:n+m≤maxLen:=by omega
 have hsm:n+m≤9223372036854775807:=by simp only[maxLen]at hmx;omega
 have hd0:i.size=wide T:=hsize
 have fresh:∀(olds:List Value)(old:Nat),olds.length=n*wide T→(∀j,j<n→Elem b W T (seg olds.toArray j (wide T)))→old<n+m→
  ∃M',TS b (fun _=>False) M W M' (W.drew.alloc (.cells (olds.toArray++news.toArray++Builtin.zeroCells z.cells (grownCap W (n+m) old T-(n+m))) T))∧SL M' (W.drew.alloc (.cells (olds.toArray++news.toArray++Builtin.zeroCells z.cells (grownCap W (n+m) old T-(n+m))) T)) T (.slice (some ⟨W.heap.size,0,none⟩) (n+m) (grownCap W (n+m) old T)) (N+m):=by
  intro olds old ho he hlt
  have hge:=grownCap_ge W (n+m) old T
  have hcm:grownCap W (n+m) old T≤maxLen:=grownCap_le_maxLen W (n+m) old T hmx
  generalize hZ:Builtin.zeroCells z.cells (grownCap W (n+m) old T-(n+m))=Z
  have hZs:Z.size=(grownCap W (n+m) old T-(n+m))*wide T:=by rw[←hZ,size_zeroCells,hzs]
  generalize grownCap W (n+m) old T=cp at*
  have e0:(olds.toArray++news.toArray++Z)=(olds.take (n*wide T)++news++Z.toList).toArray:=by
   rw[List.take_of_length_le (by omega)]
   apply Array.ext'
   simp
  have hnew:(W.drew.alloc (.cells (olds.toArray++news.toArray++Z) T)).heap[W.heap.size]?=some (.cells (olds.toArray++news.toArray++Z) T (0,0)):=heap_alloc_new W.drew _
  have hB:Below W.heap.size W (W.drew.alloc (.cells (olds.toArray++news.toArray++Z) T)):=Below.drew0 W _
  have hT1:=(TS.refl (X:=fun _=>False) hw).below hB
  have hcs:(olds.toArray++news.toArray++Z).size=cp*wide T:=by
   simp only[Array.size_append,List.size_toArray,ho,hl,hZs,←Nat.add_mul]
   congr 1;omega
  refine⟨_,hT1.add (k:=W.heap.size) (n:=n+m) (.inr (Nat.le_refl _)) ⟨hb,T,_,hnew,hT,by rw[hcs];exact Nat.mul_le_mul_right _ hge,fun j hj=>?_⟩,?_⟩
  ·have hseg:=Ls olds news n m (wide T) j (.inr ho) hl Z.toList (.inr ho) (.inl hj)
   rw[←e0]at hseg
   rw[hseg]
   by_cases h:j<n
   ·rw[if_pos h];exact(he j h).stay (.below hB)
   ·rw[if_neg h,if_pos hj];exact(hE (j-n) (by omega)).stay (.below hB)
  ·exact⟨_,n+m,cp,rfl,by omega,.inr ⟨W.heap.size,_,rfl,.inr ⟨rfl,rfl⟩,hnew,hge,hcs,hcm⟩⟩
 rcases hcase with⟨rfl,rfl,rfl⟩|⟨k,cs,rfl,hM,hk,hnc,hcs,hcm⟩
 ·have hr:=run_append_nil (P:=P) W t ty T i z ht hi hz ad m c news (by rw[hd0];exact hl) hnews h0 (by omega) (by have hb:=hnb;simp only[Nat.zero_add]at hb;omega)
  obtain⟨M',h2,h3⟩:=fresh [] 0 (by simp) (fun j hj=>absurd hj (Nat.not_lt_zero _)) (by omega)
  have e1:([]:List Value).toArray++news.toArray=news.toArray:=by simp
  simp only[Nat.zero_add,e1]at h2 h3
  exact⟨_,_,_,M',by simpa using hr,h2,by simpa using h3⟩
 ·obtain⟨hbk,T',cs1,e1,_,hs1,he1⟩:=hw k n hM
  have hh:cs1=cs∧T'=T:=by rw[hk]at e1;injection e1 with e1;injection e1 with e3 e4;exact⟨e3.symm,e4.symm⟩
  obtain⟨rfl,rfl⟩:=hh
  by_cases hroom:n+m≤cap
  ·have hfit:n*wide T'+m*wide T'≤cs1.toList.length:=by rw[Array.length_toList,hcs,←Nat.add_mul];exact Nat.mul_le_mul_right _ hroom
   have hr:=run_append_room (P:=P) W t ty T' i ht hi k n cap cs1 hk ad m c news (by rw[hd0];exact hl) hnews h1 hroom (by rw[hd0,hl];simpa using hfit)
   rw[hd0,hl]at hr
   have hset:=setRow_heap W k cs1 (cs1.toList.take (n*wide T')++news++cs1.toList.drop (n*wide T'+m*wide T')).toArray T' _ hk
   have hkb:ax W (W.setRow k (cs1.toList.take (n*wide T')++news++cs1.toList.drop (n*wide T'+m*wide T')).toArray) k none:=⟨by simp,fun q hq hne _=>setRow_other W k q _ hne⟩
   have hst:uX W (W.setRow k (cs1.toList.take (n*wide T')++news++cs1.toList.drop (n*wide T'+m*wide T')).toArray):=fun q ci hc=>hkb.2 q (gJ hc) (fun ei=>by subst ei;rw[hk]at hc;injection hc with hc;injection hc with _ hc;exact hT hc) (by simp)
   have hput:=TS.put (X:=fun _=>False) hw (w':=(W.setRow k (cs1.toList.take (n*wide T')++news++cs1.toList.drop (n*wide T'+m*wide T')).toArray)) hM hk ⟨rfl,rfl,rfl,hkb.1,fun _ h=>absurd h (Nat.not_lt_zero _)⟩ hkb hset (by simp only[List.size_toArray,List.length_append,List.length_take,List.length_drop,hl,Array.length_toList]at hfit ⊢;omega) (fun m' hm' j hj=>by
    obtain⟨_,T2,cs2,e2,_,_,h2⟩:=hw k m' hm'
    have:cs2=cs1∧T2=T':=by rw[hk]at e2;injection e2 with e2;injection e2 with e3 e4;exact⟨e3.symm,e4.symm⟩
    obtain⟨rfl,rfl⟩:=this
    rw[Ls cs2.toList news n m (wide T2) j (.inl hfit) hl _ (.inl rfl) (.inr ⟨rfl,hfit⟩)]
    split
    ·simpa using(h2 j hj).stay hst
    ·split
     ·exact(hE (j-n) (by omega)).stay hst
     ·simpa using(h2 j hj).stay hst)
   refine⟨_,_,_,_,hr,hput.add (k:=k) (n:=n+m) (.inl ⟨n,hM⟩) ⟨hbk,T',_,hset,hT,?_,fun j hj=>?_⟩,?_⟩
   ·simp only[List.size_toArray,List.length_append,List.length_take,List.length_drop,hl,Array.length_toList,Nat.add_mul]at hfit ⊢;omega
   ·rw[Ls cs1.toList news n m (wide T') j (.inl hfit) hl _ (.inl rfl) (.inr ⟨rfl,hfit⟩)]
    by_cases h:j<n
    ·rw[if_pos h];simpa using(he1 j h).stay hst
    ·rw[if_neg h,if_pos hj];exact(hE (j-n) (by omega)).stay hst
   ·exact⟨_,n+m,cap,rfl,by omega,.inr ⟨k,_,rfl,.inr ⟨rfl,rfl⟩,hset,hroom,by simp only[List.size_toArray,List.length_append,List.length_take,List.length_drop,hl,Array.length_toList]at hfit ⊢;omega,hcm⟩⟩
  ·have hlo:(cs1.toList.take (n*wide T')).length=n*wide T':=by rw[List.length_take,Array.length_toList,hcs];exact Nat.min_eq_left (Nat.mul_le_mul_right _ hnc)
   have holds:∀j u,(cs1.toList.take (n*wide T'))[j]?=some u→W.cell? ((⟨k,0,none⟩:Addr).add j)=some u:=by
    intro j u hu
    rw[Addr.add_mid,ak hk]
    rw[List.getElem?_take]at hu
    split at hu
    ·simpa using hu
    ·cases hu
   have hr:=run_append_grow (P:=P) W t ty T' i z ht hi hz ⟨k,0,none⟩ n cap _ (by rw[hd0];exact hlo) holds ad m c news (by rw[hd0];exact hl) hnews (by omega) (by omega) (growslice_fits (by omega) hnb)
   obtain⟨M',h2,h3⟩:=fresh (cs1.toList.take (n*wide T')) cap hlo (fun j hj=>by
    have:seg (cs1.toList.take (n*wide T')).toArray j (wide T')=seg cs1 j (wide T'):=by
     have hj':(j+1)*wide T'≤n*wide T':=Nat.mul_le_mul_right _ hj
     rw[Nat.add_mul,Nat.one_mul]at hj'
     apply List.ext_getElem?
     intro q
     unfold seg
     simp only[List.getElem?_take,List.getElem?_drop]
     by_cases hq:q<wide T'
     ·have:j*wide T'+q<n*wide T':=by omega
      simp only[hq,this,if_true]
     ·simp only[hq,if_false]
    rw[this]
    exact he1 j hj) (by omega)
   exact⟨_,_,_,M',by simpa using hr,h2,by simpa using h3⟩
end
section
variable {P:Program} {ops:Array Oper} {rest:List Oper} {o:Oper} {a:Act} {Q:Exit→Act→World→Prop} {W:World} {b:Nat} {X:Nat→Prop} {M0 M:Nat→Nat→Prop} {w0:World} {L:List nC} {G:nD}
theorem lap{s x:Operand}{t T N bytes n0 c0:Nat}{A0:Option Addr}{z:Value}{ad:Addr}{m c:Nat}{news:List Value}(HW:ah (LW b X M0 w0 L G M W))(HS:SL M W T (.slice A0 n0 c0) N)(hb:b≤W.heap.size)(hl:news.length=m*wide T)(hnews:∀j u,news[j]?=some u→W.cell? (ad.add j)=some u)
 (h1:∀u∈news,u.oneCell'=true)(h0:0<m)(hE:∀i,i<m→Elem b W T (seg news.toArray i (wide T)))(hinfo:(P.info? T).map (fun i=>(i.zero,i.size,i.bytes))=some (some z,wide T,bytes))(hzs:z.cells.size=wide T)(hT:T≠89)(hbytes:(N+m)*bytes≤140737488355328)(h63:N+m≤maxLen)(ht:P.underlying t=some (.slice T))
 (h:∀A' c' M' w',ah (LW b X M0 w0 L G M' w')→TS b (fun _=>False) M W M' w'→SL M' w' T (.slice A' (n0+m) c') (N+m)→wpList P ops Q rest (a.put o.dst (.slice A' (n0+m) c')) w')
 (hgd:o.guard=none:=by rfl)(ho:o.op= .call {callee:=.builtin .append,args:=#[s,x],argTypes:=#[t,t]}:=by rfl)(hs:a.eval s= .slice A0 n0 c0:=by rfl)(hx:a.eval x= .slice (some ad) m c:=by rfl):wpList P ops Q (o::rest) a W:=by
 cases hi:P.info? T with
 |none=>rw[hi]at hinfo;cases hinfo
 |some i=>
  rw[hi]at hinfo
  simp only[Option.map_some,Option.some.injEq,Prod.mk.injEq]at hinfo
  obtain⟨hz,hsz,hby⟩:=hinfo
  obtain⟨A',c',w',M',hr,hts,hsl⟩:=Lu (P:=P) (c:=c) (ty:=o.type) ht hi hz hsz hby hzs hT HW.out.ts.tw hb HS hl hnews h1 h0 hE hbytes h63
  refine wpList_plain hgd fun K hK=>?_
  unfold Oper.wp execOp
  simp only[ho,resolve,invoke,builtin,Sem.run_bind,Sem.run_pure,Result.andThen_ok,List.map_toArray,List.map_cons,List.map_nil,hs,hx,hr]
  exact hK _ _ (h A' c' M' w' ⟨HW.out.call hts⟩ hts hsl)
end
abbrev eC(x0:Bool)(v1:Value)(x2:Int)(v3:Value)(x4:Int)(x5:ByteArray)(v6:Value)(x7 x8:Int)(v9:Value)(x10:Bool):List Value:=[.bool x0,v1,.int .i64 x2,v3,.int .i64 x4,.string x5,v6,.int .i64 x7,.int .i64 x8,v9,.bool x10]
abbrev sC(x0 x1:Int)(v2:Value)(x3:ByteArray)(x4 x5:Bool)(x6:Int)(v7:Value)(x8:ByteArray)(x9:Bool)(x10 qy:Int):List Value:=[.int .i64 x0,.int .i64 x1,v2,.string x3,.bool x4,.bool x5,.int .i64 x6,v7,.string x8,.bool x9,.int .i64 x10,.int .i64 qy]
abbrev fC(x0:Int)(x1:Bool)(x2:Int)(x3:ByteArray):List Value:=[.int .i64 x0,.bool x1,.int .i64 x2,.string x3]
abbrev NX:Nat→Prop:=fun _=>False
def EV(b:Nat)(M:Nat→Nat→Prop)(w:World)(N C:Nat)(E:Value):Prop:=∃x0 v1 x2 v3 x4 x5 v6 x7 x8 v9 x10,E= .agg (eC x0 v1 x2 v3 x4 x5 v6 x7 x8 v9 x10).toArray∧ET b M w N C v1 x2 v3 x4 x5 v6 v9
def SV(b:Nat)(w:World)(S:Value):Prop:=∃x0 x1 v2 x3 x4 x5 x6 v7 x8 x9 x10 qy,S= .agg (sC x0 x1 v2 x3 x4 x5 x6 v7 x8 x9 x10 qy).toArray∧ST b w v2 x3 x6 v7 x8
theorem DJ{α:Type}{Q:Nat→α→Prop}(n:Nat)(h:∀i,i<n→∃x,Q i x):∃l:List α,l.length=n∧∀i x,l[i]?=some x→Q i x:=by
 induction n with
 |zero=>exact⟨[],rfl,fun i x h=>by simp at h⟩
 |succ n ih=>
  obtain⟨l,hl,hq⟩:=ih (fun i hi=>h i (by omega))
  obtain⟨x,hx⟩:=h n (by omega)
  refine⟨l++[x],by simp[hl],fun i y hy=>?_⟩
  rcases Nat.lt_or_ge i l.length with hi|hi
  ·rw[List.getElem?_append_left hi]at hy;exact hq i y hy
  ·rw[List.getElem?_append_right hi]at hy
   rcases Nat.eq_zero_or_pos (i-l.length)with h0|h0
   ·rw[h0]at hy
    obtain rfl:x=y:=by simpa using hy
    have:i=n:=by omega
    exact this▸hx
   ·rw[List.getElem?_eq_none (by simp;omega)]at hy;cases hy
def SOk(x:uF):Prop:=jP x.f2=true∧jP x.f7=true∧0≤x.f6∧x.f6≤(x.f3.size:Int)∧x.f3.size≤100∧x.f8.size≤16
section
variable {b N n c:Nat} {w w':World} {M M':Nat→Nat→Prop} {A:Option Addr}
theorem SL.reads39(hw:TW b M w)(h:SL M w 39 (.slice A n c) N):∃l:List uF,l.length=n∧n≤c∧Kd.C k39 w A n l∧∀x∈l,SOk x:=by
 obtain⟨A',n',c',e,hn,h|⟨k,cs,rfl,hM,hk,hnc,hcs,hcm⟩⟩:=h
 ·injection e with e1 e2 e3
  subst e1 e2 e3
  obtain⟨rfl,rfl,rfl⟩:=h
  exact⟨[],rfl,Nat.le_refl _,⟨rfl,by omega,fun h=>absurd h (Nat.lt_irrefl _)⟩,fun x hx=>by cases hx⟩
 ·injection e with e1 e2 e3
  subst e1 e2 e3
  obtain⟨_,T,cs1,e1,_,_,he⟩:=hw k n hM
  have hh:cs1=cs∧T=39:=by rw[hk]at e1;injection e1 with e1;injection e1 with e3 e4;exact⟨e3.symm,e4.symm⟩
  obtain⟨rfl,rfl⟩:=hh
  obtain⟨l,hl,hq⟩:=DJ (Q:=fun i(x:uF)=>k39.K w x (seg cs1 i 12)∧(seg cs1 i 12).length=12∧SOk x) n (fun i hi=>by
   rcases he i hi with⟨_,x0,x1,v2,x3,x4,x5,x6,v7,x8,x9,x10,qy,e,t⟩|⟨h,_⟩|⟨h,_⟩
   ·obtain⟨⟨l2,h2,o2⟩,⟨l7,h7,o7⟩,s0,s1,s3,s8⟩:=t
    obtain⟨A2,c2,rfl,q2,r2⟩:=h2.slice
    obtain⟨A7,c7,rfl,q7,r7⟩:=h7.slice
    have e':seg cs1 i 12=_:=e
    exact⟨⟨x0,x1,l2,x3,x4,x5,x6,l7,x8,x9,⟨x10,qy⟩⟩,by rw[e'];exact ael w ⟨x0,x1,l2,x3,x4,x5,x6,l7,x8,x9,⟨x10,qy⟩⟩ q2 r2 q7 r7,by rw[e'];rfl,o2,o7,s0,s1,s3,s8⟩
   ·exact absurd h (by decide)
   ·exact absurd h (by decide))
  refine⟨l,hl,hnc,⟨hl,by simp only[maxLen]at hcm;omega,fun _=>⟨_,rfl,fun j p hp=>?_⟩⟩,fun x hx=>?_⟩
  ·obtain⟨hK,hlen,_⟩:=hq j p hp
   exact⟨_,hlen,hK,fun i u hu=>by rw[Addr.add_mid,ak hk,Nat.zero_add];exact Ej (es:=seg cs1 j 12) rfl hu⟩
  ·obtain⟨i,hi⟩:=List.mem_iff_getElem?.1 hx
   exact(hq i x hi).2.2
theorem SL.reads42(hw:TW b M w)(h:SL M w 42 (.slice A n c) N):∃l:List jS,l.length=n∧n≤c∧Kd.C R4 w A n l∧∀x∈l,FT x.f0 x.f3:=by
 obtain⟨A',n',c',e,hn,h|⟨k,cs,rfl,hM,hk,hnc,hcs,hcm⟩⟩:=h
 ·injection e with e1 e2 e3
  subst e1 e2 e3
  obtain⟨rfl,rfl,rfl⟩:=h
  exact⟨[],rfl,Nat.le_refl _,⟨rfl,by omega,fun h=>absurd h (Nat.lt_irrefl _)⟩,fun x hx=>by cases hx⟩
 ·injection e with e1 e2 e3
  subst e1 e2 e3
  obtain⟨_,T,cs1,e1,_,_,he⟩:=hw k n hM
  have hh:cs1=cs∧T=42:=by rw[hk]at e1;injection e1 with e1;injection e1 with e3 e4;exact⟨e3.symm,e4.symm⟩
  obtain⟨rfl,rfl⟩:=hh
  obtain⟨l,hl,hq⟩:=DJ (Q:=fun i(x:jS)=>R4.K w x (seg cs1 i 4)∧(seg cs1 i 4).length=4∧FT x.f0 x.f3) n (fun i hi=>by
   rcases he i hi with⟨h,_⟩|⟨_,x0,x1,x2,x3,e,t⟩|⟨h,_⟩
   ·exact absurd h (by decide)
   ·have e':seg cs1 i 4=_:=e
    exact⟨⟨x0,x1,x2,x3⟩,by rw[e'];exact YV w ⟨x0,x1,x2,x3⟩,by rw[e'];rfl,t⟩
   ·exact absurd h (by decide))
  refine⟨l,hl,hnc,⟨hl,by simp only[maxLen]at hcm;omega,fun _=>⟨_,rfl,fun j p hp=>?_⟩⟩,fun x hx=>?_⟩
  ·obtain⟨hK,hlen,_⟩:=hq j p hp
   exact⟨_,hlen,hK,fun i u hu=>by rw[Addr.add_mid,ak hk,Nat.zero_add];exact Ej (es:=seg cs1 j 4) rfl hu⟩
  ·obtain⟨i,hi⟩:=List.mem_iff_getElem?.1 hx
   exact(hq i x hi).2.2
theorem apW(id:Int)(a0:Bool)(l1:List bf)(a2:Int)(l3:List bf)(a4:Int)(a5:ByteArray)(l6:List uF)(a7 a8:Int)(l9:List jS)(MZ:Bool)(h6:l6.length≤5000000)(d:Nat):∀i:Nat,l6.length-i=d→i≤l6.length→
 EvQ (fun k=>eX.l0 k id (i:Int) a0 l1 a2 l3 a4 a5 l6 a7 a8 l9 MZ) (fun r=> -1≤r∧r<(l6.length:Int)):=by
 induction d with
 |zero=>
  intro i hd hi
  exact EvQ.step (fun k=>by rw[eX.l0]) (EvQ.neg (by omega) (EvQ.now ⟨by omega,by omega⟩))
 |succ d ih=>
  intro i hd hi
  refine EvQ.step (fun k=>by rw[eX.l0]) (EvQ.pos (by omega) (EvQ.pos (by omega) (EvQ.ite (fun _=>EvQ.now ⟨by omega,by omega⟩) (fun _=>?_))))
  have e:wrap64 ((i:Int)+1)=((i+1:Nat):Int):=by rw[dL _ (by omega) (by omega)];omega
  rw[e]
  exact ih (i+1) (by omega) (by omega)
theorem Je{v1 v3:Value}{x0 x10:Bool}{x2 x4 x7 x8:Int}{x5:ByteArray}{A9:Option Addr}{n9 c9:Nat}{C:Nat}(id:Int)(hw:TW b M w)(E:ET b M w N C v1 x2 v3 x4 x5 (.slice A n c) (.slice A9 n9 c9))(hN:N≤4000000):
 Calls Tryz.prog 49 #[.agg (eC x0 v1 x2 v3 x4 x5 (.slice A n c) x7 x8 (.slice A9 n9 c9) x10).toArray,.int .i64 id] w fun e w'=>∃r:Int,e= .returned (.int .i64 r)∧ -1≤r∧r<(n:Int)∧Below w.heap.size w w':=by
 obtain⟨⟨l1,h1,o1⟩,⟨l3,h3,o3⟩,c5,s6,s9⟩:=E
 obtain⟨A1,c1,rfl,q1,r1⟩:=h1.slice
 obtain⟨A3,c3,rfl,q3,r3⟩:=h3.slice
 obtain⟨l6,rfl,q6,r6,_⟩:=s6.reads39 hw
 obtain⟨l9,rfl,q9,r9,_⟩:=s9.reads42 hw
 have hn:l6.length≤N:=by obtain⟨_,_,_,e,h,_⟩:=s6;injection e with _ e _;omega
 obtain⟨r,⟨hr,hr1⟩,hev⟩:=apW id x0 l1 x2 l3 x4 x5 l6 x7 x8 l9 x10 (by omega) l6.length 0 (by omega) (by omega)
 obtain⟨k,hk⟩:=hev
 refine(eX.calls k x0 A1 c1 l1 x2 A3 c3 l3 x4 x5 A c l6 x7 x8 A9 c9 l9 x10 id r w r1 q1 r3 q3 r6 q6 r9 q9 (by unfold eX.f;exact hk k (Nat.le_refl _))).mono ?_
 rintro e w' ⟨rfl,hb⟩
 exact⟨r,rfl,hr,hr1,hb⟩
theorem ET.form{C:Nat}{v1 v3 v6 v9:Value}{x2 x4:Int}{x5:ByteArray}(E:ET b M w N C v1 x2 v3 x4 x5 v6 v9):∃A6 n6 c6 A9 n9 c9,v6= .slice A6 n6 c6∧v9= .slice A9 n9 c9∧n6≤N∧n9≤N:=by
 obtain⟨A6,n6,c6,e6,h6,_⟩:=E.s6
 obtain⟨A9,n9,c9,e9,h9,_⟩:=E.s9
 exact⟨A6,n6,c6,A9,n9,c9,e6,e9,h6,h9⟩
theorem SL.has{T:Nat}(h:SL M w T (.slice A n c) N)(h0:0<n):∃k,A=some ⟨k,0,none⟩∧M k n∧∃cs,w.heap[k]?=some (.cells cs T (0,0)):=by
 obtain⟨A',n',c',e,hn,h|⟨k,cs,rfl,hM,hk,_⟩⟩:=h
 ·injection e with e1 e2 e3
  omega
 ·injection e with e1 e2 e3
  subst e1 e2 e3
  exact⟨k,rfl,hM,cs,hk⟩
end
theorem SL.blk{k n c N T:Nat}{w:World}{M:Nat→Nat→Prop}(h:SL M w T (.slice (some ⟨k,0,none⟩) n c) N):M k n∧∃cs,w.heap[k]?=some (.cells cs T (0,0)):=by
 obtain⟨A',n',c',e,hn,h|⟨k',cs,rfl,hM,hk,_⟩⟩:=h
 ·injection e with e1 e2 e3
  rw[h.1]at e1
  cases e1
 ·injection e with e1 e2 e3
  injection e1 with e1
  injection e1 with e1
  subst e1 e2 e3
  exact⟨hM,cs,hk⟩
section
variable {P:Program} {ops:Array Oper} {rest:List Oper} {o:Oper} {a:Act} {Q:Exit→Act→World→Prop} {W:World} {b:Nat} {X:Nat→Prop} {M0 M:Nat→Nat→Prop} {w0:World} {L:List nC} {G:nD}
theorem MC{N:Tmp}{t m:Nat}(HW:ah (LW b X M0 w0 L G M W))(cs:List Value)(h:∀g w1,ah (LW b X M0 w0 (⟨g,cs,t⟩::L) G M w1)→wpList P ops Q rest (a.put o.dst (.slice (some ⟨g,0,none⟩) m m)) w1)
 (hd:o.dst=some N:=by rfl)(hgd:o.guard=none:=by rfl)(hT:t≠89:=by decide)
 (hr:(execOp a.eval o).run P W= .ok (.value (.slice (some ⟨W.heap.size,0,none⟩) m m)) (W.alloc (.cells cs.toArray t (0,0))):=by first|(go_simp;done)|(go_simp;rfl)):wpList P ops Q (o::rest) a W:=
 Kd.event_run hgd hr (h _ _ ⟨HW.out.push rfl (zB W _) (eY (Below.refl _ _) _) hT⟩)
theorem lbe{N:Tmp}{t:Nat}(HW:ah (LW b X M0 w0 L G M W))(hb:b≤W.heap.size)(h:∀v M' w1,ah (LW b X M0 w0 L G M' w1)→SL M' w1 t v 0→TS b NX M W M' w1→wpList P ops Q rest (a.put o.dst v) w1)
 (hd:o.dst=some N:=by rfl)(hgd:o.guard=none:=by rfl)(hT:t≠89:=by decide)
 (hr:(execOp a.eval o).run P W= .ok (.value (.slice (some ⟨W.heap.size,0,none⟩) 0 0)) (W.alloc (.cells #[] t (0,0))):=by first|(go_simp;done)|(go_simp;rfl)):wpList P ops Q (o::rest) a W:=by
 have hB:Below W.heap.size W (W.alloc (.cells #[] t (0,0))):=eY (Below.refl _ _) _
 have hn:(W.alloc (.cells #[] t (0,0))).heap[W.heap.size]?=some (.cells #[] t (0,0)):=zB W _
 have ht:=(TS.below1 (X:=NX) HW.out.ts.tw hB).add (k:=W.heap.size) (n:=0) (.inr (Nat.le_refl _)) ⟨hb,t,#[],hn,hT,by simp,fun i hi=>absurd hi (Nat.not_lt_zero _)⟩
 exact Kd.event_run hgd hr (h _ _ _ ⟨HW.out.call ht⟩ ⟨_,0,0,rfl,Nat.le_refl _,.inr ⟨W.heap.size,#[],rfl,.inr ⟨rfl,rfl⟩,hn,Nat.le_refl _,by simp,by simp[maxLen]⟩⟩ ht)
theorem lrw{ty:TypeId}{x:Operand}{d:TypeDesc}{k j:Nat}{cs:List Value}(hr:W.rangeAt k j cs)(hu:P.underlying ty=some d)(h:wpList P ops Q rest (a.put o.dst (.agg cs.toArray)) W)
 (hg:o.guard=none:=by rfl)(ho:o.op= .load ty x:=by rfl)(hx:a.eval x= .pointer (some ⟨k,j,none⟩):=by rfl)(hd:d.isRow=true:=by rfl)(hi:(P.info? ty).map (·.size)=some cs.length:=by kernel_rfl):wpList P ops Q (o::rest) a W:=
 wpList_load_mid hg ty x ho k j hx cs d hr hu hd hi h
theorem lsi{ty:TypeId}{x y:Operand}{g T:Nat}{c0:List Value}{L':Int→List nC}(HW:ah (LW b X M0 w0 L G M W))(i j:Nat)(c1:Int→List Value)(h:∀q w',ah (LW b X M0 w0 (L' q) G M w')→wpList P ops Q rest a w')
 (ei:L[i]?=some ⟨g,c0,T⟩:=by rfl)(he:∀q,c0.take j++[.int .i64 q]++c0.drop (j+1)=c1 q:=by exact fun _=>rfl)(hl:decide (j+1≤c0.length)=true:=by rfl)(hg:o.guard=none:=by rfl)(hn:o.dst=none:=by rfl)(ho:o.op= .store ty x y:=by rfl)(hx:a.eval x= .pointer (some ⟨g,j,none⟩):=by rfl)(hy:∃q,a.eval y= .int .i64 q:=by exact⟨_,rfl⟩)(hi:(P.info? ty).map (·.size)=some 1:=by kernel_rfl)(hL:∀q,L.set i ⟨g,c1 q,T⟩=L' q:=by(intro q;simp only[List.set_cons_zero,List.set_cons_succ];rfl)):wpList P ops Q (o::rest) a W:=by
 obtain⟨q,hq⟩:=hy
 exact ow HW i j (.int .i64 q) (c1 q) [.int .i64 q] (fun w' hw=>h q w' hw) (fun v hv=>by rw[List.mem_singleton.1 hv];rfl) ei (he q) hl rfl hg hn ho hx hq hi (hL q)
theorem lsb{ty:TypeId}{x y:Operand}{g T:Nat}{c0:List Value}{L':Bool→List nC}(HW:ah (LW b X M0 w0 L G M W))(i j:Nat)(c1:Bool→List Value)(h:∀q w',ah (LW b X M0 w0 (L' q) G M w')→wpList P ops Q rest a w')
 (ei:L[i]?=some ⟨g,c0,T⟩:=by rfl)(he:∀q,c0.take j++[.bool q]++c0.drop (j+1)=c1 q:=by exact fun _=>rfl)(hl:decide (j+1≤c0.length)=true:=by rfl)(hg:o.guard=none:=by rfl)(hn:o.dst=none:=by rfl)(ho:o.op= .store ty x y:=by rfl)(hx:a.eval x= .pointer (some ⟨g,j,none⟩):=by rfl)(hy:∃q,a.eval y= .bool q:=by exact⟨_,rfl⟩)(hi:(P.info? ty).map (·.size)=some 1:=by kernel_rfl)(hL:∀q,L.set i ⟨g,c1 q,T⟩=L' q:=by(intro q;simp only[List.set_cons_zero,List.set_cons_succ];rfl)):wpList P ops Q (o::rest) a W:=by
 obtain⟨q,hq⟩:=hy
 exact ow HW i j (.bool q) (c1 q) [.bool q] (fun w' hw=>h q w' hw) (fun v hv=>by rw[List.mem_singleton.1 hv];rfl) ei (he q) hl rfl hg hn ho hx hq hi (hL q)
theorem LW.rd39{k n c N:Nat}(HW:LW b X M0 w0 L G M W)(hSL:SL M W 39 (.slice (some ⟨k,0,none⟩) n c) N){i:Int}(h0:0≤i)(h1:i<(n:Int)):
 ∃x0 x1 v2 x3 x4 x5 x6 v7 x8 x9 x10 qy,W.rangeAt k (i.toNat*12) (sC x0 x1 v2 x3 x4 x5 x6 v7 x8 x9 x10 qy)∧ST b W v2 x3 x6 v7 x8:=by
 obtain⟨hM,hT⟩:=hSL.blk
 obtain⟨cs,es,e,hs,hE,hr,_⟩:=HW.elem hM hT (i:=i.toNat) (by omega)
 rcases hE with⟨_,x0,x1,v2,x3,x4,x5,x6,v7,x8,x9,x10,qy,rfl,t⟩|⟨h,_⟩|⟨h,_⟩
 ·exact⟨x0,x1,v2,x3,x4,x5,x6,v7,x8,x9,x10,qy,hr,t⟩
 ·exact absurd h (by decide)
 ·exact absurd h (by decide)
theorem LW.rd42{k n c N:Nat}(HW:LW b X M0 w0 L G M W)(hSL:SL M W 42 (.slice (some ⟨k,0,none⟩) n c) N){i:Int}(h0:0≤i)(h1:i<(n:Int)):
 ∃x0 x1 x2 x3,W.rangeAt k (i.toNat*4) (fC x0 x1 x2 x3)∧FT x0 x3:=by
 obtain⟨hM,hT⟩:=hSL.blk
 obtain⟨cs,es,e,hs,hE,hr,_⟩:=HW.elem hM hT (i:=i.toNat) (by omega)
 rcases hE with⟨h,_⟩|⟨_,x0,x1,x2,x3,rfl,t⟩|⟨h,_⟩
 ·exact absurd h (by decide)
 ·exact⟨x0,x1,x2,x3,hr,t⟩
 ·exact absurd h (by decide)
theorem Co{k j m:Nat}{cs:Array Value}{T:Nat}(e:W.heap[k]?=some (.cells cs T (0,0)))(h:j+m≤cs.size):W.there k j m:=fun q hq=>⟨by rw[ak e,Array.getElem?_eq_getElem (by omega)];rfl,aj e _⟩
theorem Yz{ty:TypeId}{x y:Operand}{k n c N:Nat}{x0 x1:Int}{v2:Value}{x3:ByteArray}{x4 x5:Bool}{x6:Int}{v7:Value}{x8:ByteArray}{x9:Bool}{x10 qy:Int}(HW:ah (LW b X M0 w0 L G M W))(hSL:SL M W 39 (.slice (some ⟨k,0,none⟩) n c) N){i:Int}(h0:0≤i)(h1:i<(n:Int))
 (hS:ST b W v2 x3 x6 v7 x8)(h:∀w',ah (LW b X M0 w0 L G M w')→wpList P ops Q rest a w')
 (hg:o.guard=none:=by rfl)(hn:o.dst=none:=by rfl)(ho:o.op= .store ty x y:=by rfl)(hx:a.eval x= .pointer (some ⟨k,i.toNat*12,none⟩):=by rfl)(hy:a.eval y= .agg (sC x0 x1 v2 x3 x4 x5 x6 v7 x8 x9 x10 qy).toArray:=by rfl)(hi:(P.info? ty).map (·.size)=some 12:=by kernel_rfl):wpList P ops Q (o::rest) a W:=by
 obtain⟨hM,hT⟩:=hSL.blk
 obtain⟨cs,es,e,hs,hE,hr,hsz⟩:=HW.out.elem hM hT (i:=i.toNat) (by omega)
 have hSE:SE b W (sC x0 x1 v2 x3 x4 x5 x6 v7 x8 x9 x10 qy):=⟨_,_,_,_,_,_,_,_,_,_,_,_,rfl,hS⟩
 have hsz':i.toNat*12+12≤cs.size:=by have h9:(i.toNat+1)*12≤cs.size:=hsz;omega
 refine pI (vs:=sC x0 x1 v2 x3 x4 x5 x6 v7 x8 x9 x10 qy) hg hn ho hx hy (by simp[Value.cells]) (Co e hsz') hi hSE.one (h _ ⟨?_⟩)
 have hp:=HW.out.put (j:=0) (vs:=sC x0 x1 v2 x3 x4 x5 x6 v7 x8 x9 x10 qy) hM e (i:=i.toNat) (by omega) hs hsz (by show 0+12≤12;omega) (es':=sC x0 x1 v2 x3 x4 x5 x6 v7 x8 x9 x10 qy) (by
  have hl:es.length=12:=hE.len
  rw[List.take_zero,List.nil_append,List.drop_of_length_le (by rw[hl];exact Nat.le_refl 12),List.append_nil]) (.inl ⟨rfl,hSE⟩)
 exact hp
theorem lsn{ty:TypeId}{x y:Operand}{k n c N:Nat}(HW:ah (LW b X M0 w0 L G M W))(hSL:SL M W 39 (.slice (some ⟨k,0,none⟩) n c) N){i:Int}(h0:0≤i)(h1:i<(n:Int))(j:Nat)(hj:j=0∨j=1∨j=11)
 (h:∀w',ah (LW b X M0 w0 L G M w')→wpList P ops Q rest a w')
 (hg:o.guard=none:=by rfl)(hn:o.dst=none:=by rfl)(ho:o.op= .store ty x y:=by rfl)(hx:a.eval x= .pointer (some ⟨k,i.toNat*12+j,none⟩):=by rfl)(hy:∃q,a.eval y= .int .i64 q:=by exact⟨_,rfl⟩)(hi:(P.info? ty).map (·.size)=some 1:=by kernel_rfl):wpList P ops Q (o::rest) a W:=by
 obtain⟨q,hq⟩:=hy
 obtain⟨hM,hT⟩:=hSL.blk
 obtain⟨cs,es,e,hs,hE,hr,hsz⟩:=HW.out.elem hM hT (i:=i.toNat) (by omega)
 have hsz':i.toNat*12+j+1≤cs.size:=by have h9:(i.toNat+1)*12≤cs.size:=hsz;omega
 refine pI (vs:=[.int .i64 q]) hg hn ho hx hq rfl (Co e (by simpa using hsz')) hi (fun v hv=>by rw[List.mem_singleton.1 hv];rfl) (h _ ⟨?_⟩)
 refine HW.out.put (j:=j) (vs:=[.int .i64 q]) hM e (i:=i.toNat) (by omega) hs hsz (by show j+1≤12;omega) rfl ?_
 rcases hE with⟨_,x0,x1,v2,x3,x4,x5,x6,v7,x8,x9,x10,qy,rfl,t⟩|⟨h,_⟩|⟨h,_⟩
 ·refine .inl ⟨rfl,?_⟩
  rcases hj with rfl|rfl|rfl
  ·exact⟨q,x1,v2,x3,x4,x5,x6,v7,x8,x9,x10,qy,rfl,t⟩
  ·exact⟨x0,q,v2,x3,x4,x5,x6,v7,x8,x9,x10,qy,rfl,t⟩
  ·exact⟨x0,x1,v2,x3,x4,x5,x6,v7,x8,x9,x10,q,rfl,t⟩
 ·exact absurd h (by decide)
 ·exact absurd h (by decide)
end
theorem ST.form{b:Nat}{w:World}{v2 v7:Value}{x3 x8:ByteArray}{x6:Int}(h:ST b w v2 x3 x6 v7 x8):∃A2 n2 c2 A7 n7 c7,v2= .slice A2 n2 c2∧v7= .slice A7 n7 c7:=by
 obtain⟨l2,h2,_⟩:=h.h2
 obtain⟨l7,h7,_⟩:=h.h7
 obtain⟨A2,c2,e2,_⟩:=h2.slice
 obtain⟨A7,c7,e7,_⟩:=h7.slice
 exact⟨A2,_,c2,A7,_,c7,e2,e7⟩
theorem ST.ones{b:Nat}{w:World}{v2 v7:Value}{x3 x8:ByteArray}{x6:Int}(h:ST b w v2 x3 x6 v7 x8):v2.oneCell'=true∧v7.oneCell'=true:=by
 obtain⟨l2,h2,_⟩:=h.h2
 obtain⟨l7,h7,_⟩:=h.h7
 exact⟨h2.one,h7.one⟩
theorem gF{vs:List Value}(h:vs.all (fun v=>v.oneCell')=true):∀v∈vs,v.oneCell'=true:=fun v hv=>List.all_eq_true.1 h v hv
abbrev wC(x0:Bool)(v1:Value)(x2:Int)(v3:Value)(x4:Int)(x5:ByteArray)(v6:Value)(x7 x8:Int)(v9:Value)(x10:Bool)(y0:Bool)(u1:Value)(y2:Int)(u3:Value)(y4:Int)(y5:ByteArray)(u6:Value)(y7 y8:Int)(u9:Value)(oH:Bool)(s t:ByteArray):List Value:=[.bool x0,v1,.int .i64 x2,v3,.int .i64 x4,.string x5,v6,.int .i64 x7,.int .i64 x8,v9,.bool x10,.bool y0,u1,.int .i64 y2,u3,.int .i64 y4,.string y5,u6,.int .i64 y7,.int .i64 y8,u9,.bool oH,.string s,.string t]
abbrev vC(x0 x1 x2:Int)(x3 x4:ByteArray):List Value:=[.int .i64 x0,.int .i64 x1,.int .i64 x2,.string x3,.string x4]
abbrev tC(v:Value)(x:Int):List Value:=[v,.int .i64 x]
abbrev xW(b N C:Nat)(v1:Value)(x2:Int)(v3:Value)(x4:Int)(x5:ByteArray)(v6 v9:Value):nD:=fun M w=>ET b M w N C v1 x2 v3 x4 x5 v6 v9
abbrev Jf(b:Nat)(v2:Value)(x3:ByteArray)(x6:Int)(v7:Value)(x8:ByteArray):nD:=fun _ w=>ST b w v2 x3 x6 v7 x8
abbrev FRF(b:Nat)(v:Value)(l:List bf):nD:=fun _ w=>FR b w v l
abbrev Yh(T N:Nat)(v:Value):nD:=fun M w=>SL M w T v N
abbrev TV(b:Nat)(w:World)(v:Value)(x:Int):Prop:=∃l,FR b w v l∧eO l x=true
abbrev TVF(b:Nat)(v:Value)(x:Int):nD:=fun _ w=>TV b w v x
abbrev HV(b:Nat)(w:World)(v:Value):Prop:=∃l,FR b w v l∧jP l=true
abbrev HVF(b:Nat)(v:Value):nD:=fun _ w=>HV b w v
theorem Mon.tv{b:Nat}(v:Value)(x:Int):Mon b (TVF b v x):=fun _ _ _ _ _ t ⟨l,h,o⟩=>⟨l,h.stay t.stay,o⟩
theorem Mon.hv{b:Nat}(v:Value):Mon b (HVF b v):=fun _ _ _ _ _ t ⟨l,h,o⟩=>⟨l,h.stay t.stay,o⟩
theorem ET.form4{b N C:Nat}{w:World}{M:Nat→Nat→Prop}{v1 v3 v6 v9:Value}{x2 x4:Int}{x5:ByteArray}(E:ET b M w N C v1 x2 v3 x4 x5 v6 v9):∃A1 n1 c1 A3 n3 c3 A6 n6 c6 A9 n9 c9,v1= .slice A1 n1 c1∧v3= .slice A3 n3 c3∧v6= .slice A6 n6 c6∧v9= .slice A9 n9 c9∧n6≤N∧n9≤N:=by
 obtain⟨l1,h1,_⟩:=E.t1
 obtain⟨l3,h3,_⟩:=E.t3
 obtain⟨A1,c1,e1,_⟩:=h1.slice
 obtain⟨A3,c3,e3,_⟩:=h3.slice
 obtain⟨A6,n6,c6,A9,n9,c9,e6,e9,h6,h9⟩:=E.form
 exact⟨A1,_,c1,A3,_,c3,A6,n6,c6,A9,n9,c9,e1,e3,e6,e9,h6,h9⟩
section
variable {P:Program} {ops:Array Oper} {rest:List Oper} {o:Oper} {a:Act} {Q:Exit→Act→World→Prop} {W:World}
theorem GA(x y:Int):(if y<x then y else x)≤x∧(if y<x then y else x)≤y∧((if y<x then y else x)=x∨(if y<x then y else x)=y):=by split<;>omega
theorem Sq{s t:Operand}{ts:Array TypeId}(x y:Int)(h:∀q,q≤x→q≤y→(q=x∨q=y)→wpList P ops Q rest (a.put o.dst (.int .i64 q)) W)
 (hgd:o.guard=none:=by rfl)(ho:o.op= .call {callee:=.builtin .min,args:=#[s,t],argTypes:=ts}:=by rfl)(hs:a.eval s= .int .i64 x:=by rfl)(ht:a.eval t= .int .i64 y:=by rfl):wpList P ops Q (o::rest) a W:=by
 refine wpList_plain hgd fun K hK=>?_
 unfold Oper.wp execOp
 simp only[ho,resolve,invoke,builtin,Sem.run_bind,Sem.run_pure,Result.andThen_ok,List.map_toArray,List.map_cons,List.map_nil,hs,ht,bW,bn]
 obtain⟨h1,h2,h3⟩:=GA x y
 exact hK _ _ (h _ h1 h2 h3)
theorem aEP{s t r:Operand}{ts:Array TypeId}(x y z:Int)(h:∀q,q≤x→q≤y→q≤z→wpList P ops Q rest (a.put o.dst (.int .i64 q)) W)
 (hgd:o.guard=none:=by rfl)(ho:o.op= .call {callee:=.builtin .min,args:=#[s,t,r],argTypes:=ts}:=by rfl)(hs:a.eval s= .int .i64 x:=by rfl)(ht:a.eval t= .int .i64 y:=by rfl)(hr:a.eval r= .int .i64 z:=by rfl):wpList P ops Q (o::rest) a W:=by
 refine wpList_plain hgd fun K hK=>?_
 unfold Oper.wp execOp
 simp only[ho,resolve,invoke,builtin,Sem.run_bind,Sem.run_pure,Result.andThen_ok,List.map_toArray,List.map_cons,List.map_nil,hs,ht,hr,aV,bn]
 obtain⟨h1,h2,h3⟩:=GA x y
 obtain⟨h4,h5,h6⟩:=GA (if y<x then y else x) z
 exact hK _ _ (h _ (Int.le_trans h4 h1) (Int.le_trans h4 h2) h5)
end
def EPost(b:Nat)(M:Nat→Nat→Prop)(w:World)(N C:Nat):Ending→World→Prop:=fun e w'=>∃E' M',e= .returned E'∧TS b NX M w M' w'∧EV b M' w' N C E'
def Lv(b:Nat)(M:Nat→Nat→Prop)(w:World)(N C S:Nat):Ending→World→Prop:=fun e w'=>∃E' s M',e= .returned (.tuple #[E',.string s])∧TS b NX M w M' w'∧EV b M' w' N C E'∧s.size≤S
def Sr(b:Nat)(M:Nat→Nat→Prop)(w:World)(N C:Nat):Ending→World→Prop:=fun e w'=>∃E' r M',e= .returned (.tuple #[E',.bool r])∧TS b NX M w M' w'∧EV b M' w' N C E'
def Lx(b:Nat)(M:Nat→Nat→Prop)(w:World)(N C:Nat):Ending→World→Prop:=fun e w'=>∃E' i r M',e= .returned (.tuple #[E',.int .i64 i,.bool r])∧TS b NX M w M' w'∧EV b M' w' N C E'
def Wo(b:Nat)(M:Nat→Nat→Prop)(w:World):Ending→World→Prop:=fun e w'=>∃S M',e= .returned S∧TS b NX M w M' w'∧SV b w' S
section
variable {b N C S:Nat} {M:Nat→Nat→Prop} {w w':World} {e:Ending} {E:Value}
theorem EPost.out(h:EPost b M w N C e w'):∃E' M',e= .returned E'∧TS b NX M w M' w'∧EV b M' w' N C E':=h
theorem Lv.out(h:Lv b M w N C S e w'):∃E' s M',e= .returned (.tuple #[E',.string s])∧TS b NX M w M' w'∧EV b M' w' N C E'∧s.size≤S:=h
theorem Sr.out(h:Sr b M w N C e w'):∃E' r M',e= .returned (.tuple #[E',.bool r])∧TS b NX M w M' w'∧EV b M' w' N C E':=h
theorem Lx.out(h:Lx b M w N C e w'):∃E' i r M',e= .returned (.tuple #[E',.int .i64 i,.bool r])∧TS b NX M w M' w'∧EV b M' w' N C E':=h
theorem Wo.out(h:Wo b M w e w'):∃S M',e= .returned S∧TS b NX M w M' w'∧SV b w' S:=h
theorem EV.out(h:EV b M w N C E):∃x0 v1 x2 v3 x4 x5 v6 x7 x8 v9 x10,E= .agg (eC x0 v1 x2 v3 x4 x5 v6 x7 x8 v9 x10).toArray∧ET b M w N C v1 x2 v3 x4 x5 v6 v9:=h
theorem SV.out(h:SV b w E):∃x0 x1 v2 x3 x4 x5 x6 v7 x8 x9 x10 qy,E= .agg (sC x0 x1 v2 x3 x4 x5 x6 v7 x8 x9 x10 qy).toArray∧ST b w v2 x3 x6 v7 x8:=h
end
abbrev CTF(b:Nat)(r:Bool)(v:Value)(x:Int):nD:=fun _ w=>r=true→TV b w v x
theorem Mon.ctv{b:Nat}(r:Bool)(v:Value)(x:Int):Mon b (CTF b r v x):=fun X M w M' w' t h e=>Mon.tv v x X M w M' w' t (h e)
theorem SL.zero{M:Nat→Nat→Prop}{w:World}{T:Nat}{v:Value}(h:SL M w T v 0):∃A n c,v= .slice A n c∧n=0:=by
 obtain⟨A,n,c,e,hn,_⟩:=h
 exact⟨A,n,c,e,by omega⟩
theorem SL.len{M:Nat→Nat→Prop}{w:World}{T N:Nat}{v:Value}(h:SL M w T v N):∃A n c,v= .slice A n c∧n≤N:=by
 obtain⟨A,n,c,e,hn,_⟩:=h
 exact⟨A,n,c,e,hn⟩
theorem agY{Q:Nat→Prop}(h0:Q 0)(h1:Q 1):∀i,i<2→Q i:=fun i hi=>by
 rcases(show i=0∨i=1 by omega)with rfl|rfl
 ·exact h0
 ·exact h1
def BX(L:List nC)(W:World):Prop:=∀x∈L,W.heap[x.g]?=some (.cells x.cs.toArray x.T (0,0))
theorem BX.at{L:List nC}{W:World}(h:BX L W)(i:Nat){g T:Nat}{cs:List Value}(e:L[i]?=some ⟨g,cs,T⟩):W.heap[g]?=some (.cells cs.toArray T (0,0)):=h _ (List.mem_of_getElem? e)
section
variable {P:Program} {ops:Array Oper} {o:Oper} {a:Act} {Q:Exit→Act→World→Prop} {K:Act→World→Prop} {W:World} {b:Nat} {X:Nat→Prop} {M0 M:Nat→Nat→Prop} {w0:World} {L:List nC} {G:nD} {S:World→Prop}
theorem LW.bxs(h:LW b X M0 w0 L G M W):BX L W:=fun x hx=>(h.bx x hx).1
theorem LW.drew(h:LW b X M0 w0 L G M W):LW b X M0 w0 L G M W.drew:=h.quiet (qF (Below.refl _ _))
theorem mY{id:Nat}(HW:ah (LW b X M0 w0 L G M W))(R:World→Prop)(ds:List Nat)(n:Nat)(hR:R W.drew)
 (h:∀w',ah (LW b X M0 w0 L G M w')→(BX L w'∧R w')→bJ P .any ops Q (fun W=>BX L W∧R W) ds n (Array.replicate n false) a w')
 (hm:P.follows .mixedOrders =true:=by kernel_rfl)(hn:ops.size=n:=by rfl):(Code.region id ops true).wp P Q a W:=
 uG (ds:=ds) _ hm hn rfl ⟨HW.out.drew.bxs,hR⟩ (fun hS=>h _ ⟨HW.out.drew⟩ hS)
theorem jX{c:Bool}{p q:Prop}(h:c=true)(k:p):if c=true then p else q:=by rw[if_pos h];exact k
theorem kG{ty:TypeId}{x:Operand}{d:TypeDesc}{g T:Nat}{c0:List Value}(R:World→Prop)(i j:Nat)(v:Value)(hu:P.underlying ty=some d)
 (ei:L[i]?=some ⟨g,c0,T⟩:=by rfl)(he:c0[j]?=some v:=by rfl)(hw:Region.wanted o (yielded ops a.tmps)=true:=by rfl)(ho:o.op= .load ty x:=by rfl)(hx:a.eval x= .pointer (some ⟨g,j,none⟩):=by rfl)(hd:d.isRow=false:=by rfl):YieldsIf P ops (fun W=>BX L W∧R W) o v a:=
 .inl ⟨hw,fun w hw'=>by
  unfold execOp
  have hc:w.cell? ⟨g,j,none⟩=some v:=by rw[ak (hw'.1.at i ei)];simpa using he
  simp only[ho,hx,Instr.loadAt,Instr.sureAddr,Sem.run_bind,Sem.run_pure,Result.andThen_ok,qd w g j ty v d hc hu hd]⟩
theorem Wp{ty:TypeId}{x:Operand}{d:TypeDesc}{g T:Nat}{c0:List Value}(R:World→Prop)(i j:Nat)(cs:List Value)(hu:P.underlying ty=some d)
 (ei:L[i]?=some ⟨g,c0,T⟩:=by rfl)(he:(c0.drop j).take cs.length=cs:=by rfl)(hw:Region.wanted o (yielded ops a.tmps)=true:=by rfl)(ho:o.op= .load ty x:=by rfl)(hx:a.eval x= .pointer (some ⟨g,j,none⟩):=by rfl)(hd:d.isRow=true:=by rfl)(hi:(P.info? ty).map (·.size)=some cs.length:=by kernel_rfl):YieldsIf P ops (fun W=>BX L W∧R W) o (.agg cs.toArray) a:=
 yieldsIf_load_mid hw ty x ho g j hx cs d (fun w hw'=>fun q v hq=>by
  rw[ak (hw'.1.at i ei)]
  have:c0[j+q]?=some v:=by
   rw[←he,List.getElem?_take]at hq
   split at hq
   ·rwa[List.getElem?_drop]at hq
   ·cases hq
  simpa using this) hu hd hi
theorem yrw{ty:TypeId}{x:Operand}{d:TypeDesc}{k j:Nat}{R:World→Prop}(cs:List Value)(hR:∀W,R W→W.rangeAt k j cs)(hu:P.underlying ty=some d)
 (hw:Region.wanted o (yielded ops a.tmps)=true:=by rfl)(ho:o.op= .load ty x:=by rfl)(hx:a.eval x= .pointer (some ⟨k,j,none⟩):=by rfl)(hd:d.isRow=true:=by rfl)(hi:(P.info? ty).map (·.size)=some cs.length:=by kernel_rfl):YieldsIf P ops (fun W=>BX L W∧R W) o (.agg cs.toArray) a:=
 yieldsIf_load_mid hw ty x ho k j hx cs d (fun w hw'=>hR w hw'.2) hu hd hi
theorem DK{ty:TypeId}{x:Operand}{d:TypeDesc}{k j:Nat}{R:World→Prop}(v:Value)(hR:∀W,R W→W.cell? ⟨k,j,none⟩=some v)(hu:P.underlying ty=some d)
 (hw:Region.wanted o (yielded ops a.tmps)=true:=by rfl)(ho:o.op= .load ty x:=by rfl)(hx:a.eval x= .pointer (some ⟨k,j,none⟩):=by rfl)(hd:d.isRow=false:=by rfl):YieldsIf P ops (fun W=>BX L W∧R W) o v a:=
 .inl ⟨hw,fun w hw'=>by
  unfold execOp
  simp only[ho,hx,Instr.loadAt,Instr.sureAddr,Sem.run_bind,Sem.run_pure,Result.andThen_ok,qd w k j ty v d (hR w hw'.2) hu hd]⟩
theorem Q7{ty:TypeId}{x y:Operand}{p q:Nat}{u:Value}{vs:List Value}(hn:o.dst=none)(ho:o.op= .store ty x y)(hx:a.eval x= .pointer (some ⟨p,q,none⟩))(hy:a.eval y=u)(hv:u.cells.toList=vs)(ht:W.there p q vs.length)
 (hi:(P.info? ty).map (·.size)=some vs.length)(h1:∀v∈vs,v.oneCell'=true)(h:K a (W.setCells p q vs)):o.wp P a W K Q:=by
 unfold Oper.wp execOp
 simp only[ho,hx,hy,Instr.storeAt,Instr.sureAddr,Sem.run_bind,Sem.run_pure,Result.andThen_ok,uw W p q ty u vs hv ht hi h1]
 show K (a.put o.dst undef) _
 rw[hn]
 exact h
theorem rA{ty:TypeId}{x y:Operand}{g T:Nat}{c0:List Value}{L':List nC}(HW:ah (LW b X M0 w0 L G M W))(i j:Nat)(u:Value)(c1:List Value)(vs:List Value)(h:∀w',ah (LW b X M0 w0 L' G M w')→K a w')(h1:∀v∈vs,v.oneCell'=true)
 (ei:L[i]?=some ⟨g,c0,T⟩:=by rfl)(he:c0.take j++vs++c0.drop (j+vs.length)=c1:=by rfl)(hl:decide (j+vs.length≤c0.length)=true:=by rfl)(hv:u.cells.toList=vs:=by rfl)(hn:o.dst=none:=by rfl)(ho:o.op= .store ty x y:=by rfl)(hx:a.eval x= .pointer (some ⟨g,j,none⟩):=by rfl)(hy:a.eval y=u:=by rfl)(hi:(P.info? ty).map (·.size)=some vs.length:=by kernel_rfl)(hL:L.set i ⟨g,c1,T⟩=L':=by(simp only[List.set_cons_zero,List.set_cons_succ];rfl)):o.wp P a W K Q:=by
 subst hL
 have hb:=HW.out.at i ei
 have hl':=of_decide_eq_true hl
 refine Q7 hn ho hx hy hv (fun q hq=>⟨?_,aj hb _⟩) hi h1 (h _ ⟨HW.out.upd i ei (by rw[←he];exact uY vs j W c0 hb hl') (rz vs j W W (ax.refl W g none)) (sV vs j 0 W W (Below.refl _ _) (Nat.zero_le _))⟩)
 rw[ak hb]
 simp only[List.getElem?_toArray]
 rw[List.getElem?_eq_getElem (by omega)]
 rfl
theorem a2k{ty:TypeId}{x y:Operand}{k n c N:Nat}(HW:ah (LW b X M0 w0 L G M W))(hSL:SL M W 39 (.slice (some ⟨k,0,none⟩) n c) N){i:Int}(h0:0≤i)(h1:i<(n:Int))(j:Nat)(hj:j=0∨j=1∨j=11)
 (h:∀w',ah (LW b X M0 w0 L G M w')→K a w')
 (hn:o.dst=none:=by rfl)(ho:o.op= .store ty x y:=by rfl)(hx:a.eval x= .pointer (some ⟨k,i.toNat*12+j,none⟩):=by rfl)(hy:∃q,a.eval y= .int .i64 q:=by exact⟨_,rfl⟩)(hi:(P.info? ty).map (·.size)=some 1:=by kernel_rfl):o.wp P a W K Q:=by
 obtain⟨q,hq⟩:=hy
 obtain⟨hM,hT⟩:=hSL.blk
 obtain⟨cs,es,e,hs,hE,hr,hsz⟩:=HW.out.elem hM hT (i:=i.toNat) (by omega)
 have hsz':i.toNat*12+j+1≤cs.size:=by have h9:(i.toNat+1)*12≤cs.size:=hsz;omega
 refine Q7 (vs:=[.int .i64 q]) hn ho hx hq rfl (Co e (by simpa using hsz')) hi (fun v hv=>by rw[List.mem_singleton.1 hv];rfl) (h _ ⟨?_⟩)
 refine HW.out.put (j:=j) (vs:=[.int .i64 q]) hM e (i:=i.toNat) (by omega) hs hsz (by show j+1≤12;omega) rfl ?_
 rcases hE with⟨_,x0,x1,v2,x3,x4,x5,x6,v7,x8,x9,x10,qy,rfl,t⟩|⟨h,_⟩|⟨h,_⟩
 ·refine .inl ⟨rfl,?_⟩
  rcases hj with rfl|rfl|rfl
  ·exact⟨q,x1,v2,x3,x4,x5,x6,v7,x8,x9,x10,qy,rfl,t⟩
  ·exact⟨x0,q,v2,x3,x4,x5,x6,v7,x8,x9,x10,qy,rfl,t⟩
  ·exact⟨x0,x1,v2,x3,x4,x5,x6,v7,x8,x9,x10,q,rfl,t⟩
 ·exact absurd h (by decide)
 ·exact absurd h (by decide)
theorem a2l{t m:Nat}(HW:ah (LW b X M0 w0 L G M W))(cs:List Value)(h:∀g w1,ah (LW b X M0 w0 (⟨g,cs,t⟩::L) G M w1)→K (a.put o.dst (.slice (some ⟨g,0,none⟩) m m)) w1)(hT:t≠89:=by decide)
 (hr:(execOp a.eval o).run P W= .ok (.value (.slice (some ⟨W.heap.size,0,none⟩) m m)) (W.alloc (.cells cs.toArray t (0,0))):=by first|(go_simp;done)|(go_simp;rfl)):o.wp P a W K Q:=by
 unfold Oper.wp
 rw[hr]
 exact h _ _ ⟨HW.out.push rfl (zB W _) (eY (Below.refl _ _) _) hT⟩
theorem a2m{s x:Operand}{t T N bytes n0 c0:Nat}{A0:Option Addr}{z:Value}{ad:Addr}{m c:Nat}{news:List Value}(HW:ah (LW b X M0 w0 L G M W))(HS:SL M W T (.slice A0 n0 c0) N)(hb:b≤W.heap.size)(hl:news.length=m*wide T)(hnews:∀j u,news[j]?=some u→W.cell? (ad.add j)=some u)
 (h1:∀u∈news,u.oneCell'=true)(h0:0<m)(hE:∀i,i<m→Elem b W T (seg news.toArray i (wide T)))(hinfo:(P.info? T).map (fun i=>(i.zero,i.size,i.bytes))=some (some z,wide T,bytes))(hzs:z.cells.size=wide T)(hT:T≠89)(hbytes:(N+m)*bytes≤140737488355328)(h63:N+m≤maxLen)(ht:P.underlying t=some (.slice T))
 (h:∀A' c' M' w',ah (LW b X M0 w0 L G M' w')→TS b NX M W M' w'→SL M' w' T (.slice A' (n0+m) c') (N+m)→K (a.put o.dst (.slice A' (n0+m) c')) w')
 (ho:o.op= .call {callee:=.builtin .append,args:=#[s,x],argTypes:=#[t,t]}:=by rfl)(hs:a.eval s= .slice A0 n0 c0:=by rfl)(hx:a.eval x= .slice (some ad) m c:=by rfl):o.wp P a W K Q:=by
 cases hi:P.info? T with
 |none=>rw[hi]at hinfo;cases hinfo
 |some i=>
  rw[hi]at hinfo
  simp only[Option.map_some,Option.some.injEq,Prod.mk.injEq]at hinfo
  obtain⟨hz,hsz,hby⟩:=hinfo
  obtain⟨A',c',w',M',hr,hts,hsl⟩:=Lu (P:=P) (c:=c) (ty:=o.type) ht hi hz hsz hby hzs hT HW.out.ts.tw hb HS hl hnews h1 h0 hE hbytes h63
  unfold Oper.wp execOp
  simp only[ho,resolve,invoke,builtin,Sem.run_bind,Sem.run_pure,Result.andThen_ok,List.map_toArray,List.map_cons,List.map_nil,hs,hx,hr]
  exact h A' c' M' w' ⟨HW.out.call hts⟩ hts hsl
theorem z8{k T i:Nat}{cs:List Value}(HW:LW b X M0 w0 L G M W)(ei:L[i]?=some ⟨k,cs,T⟩):∀j u,cs[j]?=some u→W.cell? ((⟨k,0,none⟩:Addr).add j)=some u:=fun j u hu=>by
 rw[Addr.add_mid,ak (HW.at i ei),Nat.zero_add]
 simpa using hu
end
section
variable {ops:Array Oper} {rest:List Oper} {o:Oper} {a:Act} {Q:Exit→Act→World→Prop} {W:World} {b:Nat} {X:Nat→Prop} {M0 M:Nat→Nat→Prop} {w0:World} {L:List nC} {G:nD}
abbrev zE:List Value:=eC false (.slice none 0 0) 0 (.slice none 0 0) 0 (⟨#[]⟩:ByteArray) (.slice none 0 0) 0 0 (.slice none 0 0) false
abbrev zS:List Value:=sC 0 0 (.slice none 0 0) (⟨#[]⟩:ByteArray) false false 0 (.slice none 0 0) (⟨#[]⟩:ByteArray) false 0 0
abbrev zW:List Value:=wC false (.slice none 0 0) 0 (.slice none 0 0) 0 (⟨#[]⟩:ByteArray) (.slice none 0 0) 0 0 (.slice none 0 0) false false (.slice none 0 0) 0 (.slice none 0 0) 0 (⟨#[]⟩:ByteArray) (.slice none 0 0) 0 0 (.slice none 0 0) false (⟨#[]⟩:ByteArray) (⟨#[]⟩:ByteArray)
section
variable {x:Operand} {g T:Nat} {c0:List Value}
theorem lE{x0:Bool}{v1:Value}{x2:Int}{v3:Value}{x4:Int}{x5:ByteArray}{v6:Value}{x7 x8:Int}{v9:Value}{x10:Bool}(HW:ah (LW b X M0 w0 L G M W))(i j:Nat)(h:wpList Tryz.prog ops Q rest (a.put o.dst (.agg (eC x0 v1 x2 v3 x4 x5 v6 x7 x8 v9 x10).toArray)) W)
 (ei:L[i]?=some ⟨g,c0,T⟩:=by rfl)(he:(c0.drop j).take 11=eC x0 v1 x2 v3 x4 x5 v6 x7 x8 v9 x10:=by rfl)(hg:o.guard=none:=by rfl)(ho:o.op= .load 31 x:=by rfl)(hx:a.eval x= .pointer (some ⟨g,j,none⟩):=by rfl):wpList Tryz.prog ops Q (o::rest) a W:=
 qi HW i j _ Tryz.underlying31 h ei he hg ho hx
theorem lS{x0 x1:Int}{v2:Value}{x3:ByteArray}{x4 x5:Bool}{x6:Int}{v7:Value}{x8:ByteArray}{x9:Bool}{x10 qy:Int}(HW:ah (LW b X M0 w0 L G M W))(i j:Nat)(h:wpList Tryz.prog ops Q rest (a.put o.dst (.agg (sC x0 x1 v2 x3 x4 x5 x6 v7 x8 x9 x10 qy).toArray)) W)
 (ei:L[i]?=some ⟨g,c0,T⟩:=by rfl)(he:(c0.drop j).take 12=sC x0 x1 v2 x3 x4 x5 x6 v7 x8 x9 x10 qy:=by rfl)(hg:o.guard=none:=by rfl)(ho:o.op= .load 39 x:=by rfl)(hx:a.eval x= .pointer (some ⟨g,j,none⟩):=by rfl):wpList Tryz.prog ops Q (o::rest) a W:=
 qi HW i j _ Tryz.underlying39 h ei he hg ho hx
theorem vO{x0:Bool}{v1:Value}{x2:Int}{v3:Value}{x4:Int}{x5:ByteArray}{v6:Value}{x7 x8:Int}{v9:Value}{x10:Bool}{y0:Bool}{u1:Value}{y2:Int}{u3:Value}{y4:Int}{y5:ByteArray}{u6:Value}{y7 y8:Int}{u9:Value}{oH:Bool}{s t:ByteArray}(HW:ah (LW b X M0 w0 L G M W))(i j:Nat)(h:wpList Tryz.prog ops Q rest (a.put o.dst (.agg (wC x0 v1 x2 v3 x4 x5 v6 x7 x8 v9 x10 y0 u1 y2 u3 y4 y5 u6 y7 y8 u9 oH s t).toArray)) W)
 (ei:L[i]?=some ⟨g,c0,T⟩:=by rfl)(he:(c0.drop j).take 24=wC x0 v1 x2 v3 x4 x5 v6 x7 x8 v9 x10 y0 u1 y2 u3 y4 y5 u6 y7 y8 u9 oH s t:=by rfl)(hg:o.guard=none:=by rfl)(ho:o.op= .load 47 x:=by rfl)(hx:a.eval x= .pointer (some ⟨g,j,none⟩):=by rfl):wpList Tryz.prog ops Q (o::rest) a W:=
 qi HW i j _ Tryz.underlying47 h ei he hg ho hx
end
theorem iC{ty:TypeId}{x y:Operand}{g T:Nat}{c0:List Value}{vs:List Value}{L':List nC}(HW:ah (LW b X M0 w0 L G M W))(i:Nat)(h:∀w',ah (LW b X M0 w0 L' G M w')→wpList Tryz.prog ops Q rest a w')
 (ei:L[i]?=some ⟨g,c0,T⟩:=by rfl)(ho:o.op= .store ty x y:=by rfl)(hy:a.eval y= .agg vs.toArray:=by rfl)(hl:vs.length=c0.length:=by rfl)(h1:vs.all (fun v=>v.oneCell')=true:=by rfl)(hg:o.guard=none:=by rfl)(hn:o.dst=none:=by rfl)(hx:a.eval x= .pointer (some ⟨g,0,none⟩):=by rfl)(hi:(Tryz.prog.info? ty).map (·.size)=some vs.length:=by kernel_rfl)(hL:L.set i ⟨g,vs,T⟩=L':=by(simp only[List.set_cons_zero,List.set_cons_succ];rfl)):wpList Tryz.prog ops Q (o::rest) a W:=
 ow HW i 0 (.agg vs.toArray) vs vs h (gF h1) ei (by rw[List.take_zero,List.nil_append,Nat.zero_add,hl,List.drop_length,List.append_nil]) (by simp[hl]) rfl hg hn ho hx hy hi hL
end
section
variable {W:World} {b:Nat} {X:Nat→Prop} {M0 M:Nat→Nat→Prop} {w0:World} {L:List nC} {G:nD}
theorem LW.hb(h:LW b X M0 w0 L G M W)(hb0:b≤w0.heap.size):b≤W.heap.size:=Nat.le_trans hb0 h.ts.size
theorem LW.et{N C:Nat}{v1:Value}{x2:Int}{v3:Value}{x4:Int}{x5:ByteArray}{v6 v9:Value}(h:LW b X M0 w0 L G M W)(k:ET b M W N C v1 x2 v3 x4 x5 v6 v9):LW b X M0 w0 L (fun M w=>G M w∧xW b N C v1 x2 v3 x4 x5 v6 v9 M w) M W:=h.fact k (Mon.et _ _ _ _ _ _ _ _ _)
theorem LW.st{v2:Value}{x3:ByteArray}{x6:Int}{v7:Value}{x8:ByteArray}(h:LW b X M0 w0 L G M W)(k:ST b W v2 x3 x6 v7 x8):LW b X M0 w0 L (fun M w=>G M w∧Jf b v2 x3 x6 v7 x8 M w) M W:=h.fact k (Mon.st _ _ _ _ _)
theorem LW.tv{v:Value}{x:Int}(h:LW b X M0 w0 L G M W)(k:TV b W v x):LW b X M0 w0 L (fun M w=>G M w∧TVF b v x M w) M W:=h.fact k (Mon.tv _ _)
theorem LW.hv{v:Value}(h:LW b X M0 w0 L G M W)(k:HV b W v):LW b X M0 w0 L (fun M w=>G M w∧HVF b v M w) M W:=h.fact k (Mon.hv _)
theorem LW.sl{T N:Nat}{v:Value}(h:LW b X M0 w0 L G M W)(k:SL M W T v N):LW b X M0 w0 L (fun M w=>G M w∧Yh T N v M w) M W:=h.fact k (Mon.sl _ _ _)
theorem ET.up{N N' C:Nat}{v1:Value}{x2:Int}{v3:Value}{x4:Int}{x5:ByteArray}{v6 v9:Value}(h:ET b M W N C v1 x2 v3 x4 x5 v6 v9)(hN:N≤N'):ET b M W N' C v1 x2 v3 x4 x5 v6 v9:=⟨h.t1,h.t3,h.c5,h.s6.mono hN,h.s9.mono hN⟩
theorem EV.out4{N C:Nat}{E:Value}(h:EV b M W N C E):∃x0 A1 n1 c1 x2 A3 n3 c3 x4 x5 A6 n6 c6 x7 x8 A9 n9 c9 x10,E= .agg (eC x0 (.slice A1 n1 c1) x2 (.slice A3 n3 c3) x4 x5 (.slice A6 n6 c6) x7 x8 (.slice A9 n9 c9) x10).toArray∧ET b M W N C (.slice A1 n1 c1) x2 (.slice A3 n3 c3) x4 x5 (.slice A6 n6 c6) (.slice A9 n9 c9)∧n6≤N∧n9≤N:=by
 obtain⟨x0,v1,x2,v3,x4,x5,v6,x7,x8,v9,x10,rfl,t⟩:=h
 obtain⟨A1,n1,c1,A3,n3,c3,A6,n6,c6,A9,n9,c9,rfl,rfl,rfl,rfl,h6,h9⟩:=t.form4
 exact⟨x0,A1,n1,c1,x2,A3,n3,c3,x4,x5,A6,n6,c6,x7,x8,A9,n9,c9,x10,rfl,t,h6,h9⟩
end
section
variable {P:Program} {ops:Array Oper} {Q:Exit→Act→World→Prop} {md:Region.Mode} {S:World→Prop} {ds:List Nat}
theorem pw{v:Value}{a':Act}{oi:Oper}{fuel:Nat}{l:Array Bool}{a:Act}{w:World}{N:Option Tmp}(i:Nat)(h:bJ P md ops Q S ds fuel (l.setIfInBounds i true) a' w)(hi:ops[i]?=some oi:=by rfl)(hN:oi.dst=N:=by first|exact @rfl _ (some _)|exact @rfl _ none)
 (hy:Yields P ops oi v a:=by first|(refine Or.inl ⟨by rfl,?_⟩;intro w';go_simp;with_reducible rfl)|(refine Or.inl ⟨by rfl,?_⟩;intro w';go_simp;simp only[Instr.field,asAgg];go_simp;with_reducible rfl))
 (ha:a.put N v=a':=by(simp only[Act.put,s1,s2,s3,gI,iB];rfl))
 (hc:ME md ops l (l.setIfInBounds i true) i=true:=by first|exact JK HT_.out (by kernel_rfl)|kernel_rfl)
 (hQ:∀c a w,Q (.panic c) (a.put oi.dst v) w→Q (.panic c) a w:=by exact fun _ _ _ h=>h):bJ P md ops Q S ds (fuel+1) l a w:=TA _ hi hN hc hQ hy ha h
theorem pn{a':Act}{oi:Oper}{fuel:Nat}{l:Array Bool}{a:Act}{w:World}{N:Option Tmp}(i:Nat)(h:bJ P md ops Q S ds fuel (l.setIfInBounds i true) a' w)(hi:ops[i]?=some oi:=by rfl)(hN:oi.dst=N:=by first|exact @rfl _ (some _)|exact @rfl _ none)
 (hy:Yields P ops oi undef a:=by exact(Or.inr ⟨by rfl,rfl⟩))
 (ha:a.put N undef=a':=by(simp only[Act.put,s1,s2,s3,gI,iB];rfl))
 (hc:ME md ops l (l.setIfInBounds i true) i=true:=by first|exact JK HT_.out (by kernel_rfl)|kernel_rfl)
 (hQ:∀c a w,Q (.panic c) (a.put oi.dst undef) w→Q (.panic c) a w:=by exact fun _ _ _ h=>h):bJ P md ops Q S ds (fuel+1) l a w:=TA _ hi hN hc hQ hy ha h
theorem on{oi:Oper}{N:Option Tmp}{fuel:Nat}{l:Array Bool}{a:Act}{w:World}(i:Nat)(l':Array Bool)
 (h:∀K:Act→World→Prop,Shut (∀a' w',S w'→(S w'→bJ P md ops Q S ds fuel l' a' w')→K a' w')→if Region.wanted oi (yielded ops a.tmps)=true then Oper.wp P oi a w K Q else K (a.put N undef) w)
 (hi:ops[i]?=some oi:=by rfl)(hN:oi.dst=N:=by rfl)(hc:vT md ops l l' i=true:=by first|exact eG HT_.out (by kernel_rfl)|kernel_rfl)(hd:i∉ds:=by decide):bJ P md ops Q S ds (fuel+1) l a w:=iN l' hi hN hc hd h
theorem la{oi:Oper}{N:Option Tmp}{fuel:Nat}{l:Array Bool}{a:Act}{w:World}(i:Nat)(l':Array Bool)
 (h:∀K:Act→World→Prop,Shut (∀a' w',bJ P md ops Q S ds fuel l' a' w'→K a' w')→if Region.wanted oi (yielded ops a.tmps)=true then Oper.wp P oi a w K Q else K (a.put N undef) w)
 (hi:ops[i]?=some oi:=by rfl)(hN:oi.dst=N:=by rfl)(hc:vT md ops l l' i=true:=by first|exact eG HT_.out (by kernel_rfl)|kernel_rfl)(hd:i∈ds:=by decide):bJ P md ops Q S ds (fuel+1) l a w:=abB l' hi hN hc hd h
theorem dn{l:Array Bool}{a:Act}{w:World}{n:Nat}(h:Q .normal a w)(hr:(Region.ready md ops l==[])=true:=by first|exact jC HT_.out (by kernel_rfl)|kernel_rfl):bJ P md ops Q S ds n l a w:=lq hr h
end
section
variable {P:Program} {ops:Array Oper} {rest:List Oper} {o:Oper} {a:Act} {Q:Exit→Act→World→Prop} {W:World} {b:Nat} {X:Nat→Prop} {M0 M:Nat→Nat→Prop} {w0:World} {L:List nC} {G:nD}
theorem gt(t:TypeId)(p:Tmp){v:Operand}(_ho:o.op= .store t (.tmp p) v)(h:wpList P ops Q (o::rest) a W):wpList P ops Q (o::rest) a W:=h
variable {fn:Func} {R:Ending→World→Prop} {g T:Nat} {cs:List Value} {ty:TypeId} {d:TypeDesc} {p u u':Tmp}
theorem kP(HW:ah (LW b X M0 w0 L G M W))(i:Nat)(hu:P.underlying ty=some d)(hR:R (.returned (.agg cs.toArray)) W)
 (ei:L[i]?=some ⟨g,cs,T⟩:=by rfl)(hf:fn.results=#[.cell p ty]:=by rfl)(hp:a.tmps.getD p undef= .pointer (some ⟨g,0,none⟩):=by rfl)(hd:(match d with|.struct _|.array _ _=>true|_=>false)=true:=by rfl)(hi:(P.info? ty).map (·.size)=some cs.toArray.size:=by kernel_rfl)(hde:a.defers=[]:=by rfl):bodyPost P fn R .ret a W:=
 bodyPost_ret (results_cell_row hf _ _ g T cs.toArray (0,0) d hp (HW.out.at i ei) hu hd hi) hde hR
theorem LA(HW:ah (LW b X M0 w0 L G M W))(i:Nat)(hu:P.underlying ty=some d)(hR:R (.returned (.tuple #[.agg cs.toArray,a.tmps.getD u undef])) W)
 (ei:L[i]?=some ⟨g,cs,T⟩:=by rfl)(hf:fn.results=#[.cell p ty,.tmp u]:=by rfl)(hp:a.tmps.getD p undef= .pointer (some ⟨g,0,none⟩):=by rfl)(hd:(match d with|.struct _|.array _ _=>true|_=>false)=true:=by rfl)(hi:(P.info? ty).map (·.size)=some cs.toArray.size:=by kernel_rfl)(hde:a.defers=[]:=by rfl):bodyPost P fn R .ret a W:=
 bodyPost_ret (nG hf _ _ g T cs.toArray (0,0) d hp (HW.out.at i ei) hu hd hi) hde hR
theorem a2n(HW:ah (LW b X M0 w0 L G M W))(i:Nat)(hu:P.underlying ty=some d)(hR:R (.returned (.tuple #[.agg cs.toArray,a.tmps.getD u undef,a.tmps.getD u' undef])) W)
 (ei:L[i]?=some ⟨g,cs,T⟩:=by rfl)(hf:fn.results=#[.cell p ty,.tmp u,.tmp u']:=by rfl)(hp:a.tmps.getD p undef= .pointer (some ⟨g,0,none⟩):=by rfl)(hd:(match d with|.struct _|.array _ _=>true|_=>false)=true:=by rfl)(hi:(P.info? ty).map (·.size)=some cs.toArray.size:=by kernel_rfl)(hde:a.defers=[]:=by rfl):bodyPost P fn R .ret a W:=
 bodyPost_ret (fA hf _ _ g T cs.toArray (0,0) d hp (HW.out.at i ei) hu hd hi) hde hR
theorem rtc(HW:ah (LW b X M0 w0 L G M W))(i:Nat)(hu:P.underlying ty=some d)(hR:R (.returned (.tuple #[a.tmps.getD u undef,.agg cs.toArray])) W)
 (ei:L[i]?=some ⟨g,cs,T⟩:=by rfl)(hf:fn.results=#[.tmp u,.cell p ty]:=by rfl)(hp:a.tmps.getD p undef= .pointer (some ⟨g,0,none⟩):=by rfl)(hd:(match d with|.struct _|.array _ _=>true|_=>false)=true:=by rfl)(hi:(P.info? ty).map (·.size)=some cs.toArray.size:=by kernel_rfl)(hde:a.defers=[]:=by rfl):bodyPost P fn R .ret a W:=
 bodyPost_ret (QJ hf _ _ g T cs.toArray (0,0) d hp (HW.out.at i ei) hu hd hi) hde hR
end
theorem past{b:Nat}{w:World}(hb0:b≤w.heap.size):∃w0:World,w0.heap.size=b∧Below w0.heap.size w0 w:=by
 have hs:(w.heap.extract 0 b).size=b:=by rw[Array.size_extract];omega
 refine⟨{w with heap:=w.heap.extract 0 b},hs,⟨rfl,rfl,rfl,by show(w.heap.extract 0 b).size≤_;omega,fun k hk=>?_⟩⟩
 have hk':k<b:=by have:k<(w.heap.extract 0 b).size:=hk;omega
 show w.heap[k]?=(w.heap.extract 0 b)[k]?
 rw[Array.getElem?_eq_getElem (by omega),Array.getElem?_eq_getElem (by omega),Array.getElem_extract]
 simp
theorem zf{w0 w w':World}(hB:Below w0.heap.size w0 w)(hB':Below w0.heap.size w0 w')(hk:Kept w w' (fun _=>False)):Below w.heap.size w w':=⟨hB'.os.trans hB.os.symm,hB'.tape.trans hB.tape.symm,hB'.output.trans hB.output.symm,hk.1,fun k h=>hk.2 k h (fun h=>h)⟩
theorem FR.kept{b:Nat}{w W:World}{v:Value}{l:List bf}(h:FR b w v l)(hk:Kept w W (fun _=>False)):FR b W v l:=h.stay (fun k _ e=>hk.2 k (gJ e) (fun h=>h))
theorem FR.C{b:Nat}{w:World}{A:Option Addr}{n c:Nat}{l:List bf}(h:FR b w (.slice A n c) l):n=l.length∧l.length≤c∧Kd.C iH w A l.length l:=by
 obtain⟨A',c',e,hc,hC⟩:=h.slice
 injection e with e1 e2 e3
 subst e1 e2 e3
 exact⟨rfl,hc,hC⟩
theorem Yi{b:Nat}{w:World}{M:Nat→Nat→Prop}(v:Value)(x:Int)(u:Value)(hw:TW b M w)(hb0:b≤w.heap.size)(T:TV b w v x)(H:HV b w u):
 Calls Tryz.prog 96 #[.agg (tC v x).toArray,u] w fun e w'=>∃A n c s,e= .returned (.tuple #[.agg (tC (.slice A n c) x).toArray,.string s])∧TV b w' (.slice A n c) x∧s.size≤220∧Below w.heap.size w w':=by
 obtain⟨l,hT,ot⟩:=T
 obtain⟨h,hH,oh⟩:=H
 obtain⟨w0,rfl,hB⟩:=past hb0
 obtain⟨Au,cu,rfl,hcu,_⟩:=hH.slice
 obtain⟨⟨r1,r2,r3⟩,⟨h1,rfl,h3⟩,k,hk⟩:=a2b h l x oh ot
 refine(dB.calls k (fun _=>True) v l _ Au cu h r1 _ r3 w0 w hB hT (fun W hW=>(hH.kept hW).C.2.2) hcu (hk k (Nat.le_refl _))).mono ?_
 rintro e w' ⟨v0,rfl,hr,hB',hkp⟩
 obtain⟨A,c,rfl⟩:=Kd.R_slice hr
 exact⟨A,_,c,r3,rfl,⟨r1,FR.of hr (Nat.le_refl _),h1⟩,h3,zf hB hB' hkp⟩
theorem Sv{b:Nat}{w:World}{M:Nat→Nat→Prop}(v:Value)(x:Int)(s:ByteArray)(hw:TW b M w)(hb0:b≤w.heap.size)(T:TV b w v x)(hs:s.size≤1000):
 Calls Tryz.prog 106 #[.agg (tC v x).toArray,.string s] w fun e w'=>∃A n c x' A2 n2 c2 r,e= .returned (.tuple #[.agg (tC (.slice A n c) x').toArray,.slice A2 n2 c2,.bool r])∧HV b w' (.slice A2 n2 c2)∧(r=true→TV b w' (.slice A n c) x')∧Below w.heap.size w w':=by
 obtain⟨l,hT,ot⟩:=T
 obtain⟨w0,rfl,hB⟩:=past hb0
 obtain⟨⟨r1,r2,r3,r4⟩,⟨h1,h2⟩,k,hk⟩:=Yd Yc s.size s [] l x (Nat.le_refl _) (by omega) ot (by decide)
 refine(dO.calls k (fun _=>True) v l x s r1 r2 r3 r4 w0 w hB hT (by unfold dO.f;exact hk k (Nat.le_refl _))).mono ?_
 rintro e w' ⟨v0,v2,rfl,hr0,hr2,hB',hkp⟩
 obtain⟨A,c,rfl⟩:=Kd.R_slice hr0
 obtain⟨A2,c2,rfl⟩:=Kd.R_slice hr2
 exact⟨A,_,c,r2,A2,_,c2,r4,rfl,⟨r3,FR.of hr2 (Nat.le_refl _),h1⟩,fun h=>⟨r1,FR.of hr0 (Nat.le_refl _),h2 h⟩,zf hB hB' hkp⟩
theorem apX(s0 s1:Int)(l2:List bf)(s3:ByteArray)(s4 s5:Bool)(s6:Int)(l7:List bf)(s8:ByteArray)(s9:Bool)(s10 s11:Int)(h7:jP l7=true)(h8:s8.size≤16):
 EvQ (fun k=>jU.f k s0 s1 l2 s3 s4 s5 s6 l7 s8 s9 s10 s11) (fun r=>jP r.2.2.1=true∧r.2.2.2.1.size≤100∧r.2.2.2.2.2.2.1=0∧r.2.2.2.2.2.2.2.1=l7∧r.2.2.2.2.2.2.2.2.1=s8):=by
 unfold jU.f
 refine EvQ.bind (apT l7 _ h7) ?_
 rintro⟨p,t⟩ _
 refine EvQ.bind (a2h p s8 h8) ?_
 rintro⟨a,s⟩ ⟨ha,hs⟩
 refine EvQ.now ⟨(pG _).2 ⟨fun x hx=>?_,(by decide:(2:Nat)≤6)⟩,hs,rfl,rfl,rfl⟩
 simp only[List.mem_cons,List.not_mem_nil,or_false]at hx
 rcases hx with rfl|rfl
 ·exact sU (by decide+kernel) ha (by decide)
 ·decide+kernel
theorem agZ{b:Nat}{w:World}{M:Nat→Nat→Prop}{s0 s1:Int}{u2:Value}{s3:ByteArray}{s4 s5:Bool}{s6:Int}{u7:Value}{s8:ByteArray}{s9:Bool}{s10 s11:Int}(hw:TW b M w)(hb0:b≤w.heap.size)(hS:ST b w u2 s3 s6 u7 s8):
 Calls Tryz.prog 112 #[.agg (sC s0 s1 u2 s3 s4 s5 s6 u7 s8 s9 s10 s11).toArray] w (Wo b M w):=by
 obtain⟨⟨l2,h2,o2⟩,⟨l7,h7,o7⟩,hs0,hs1,hs3,hs8⟩:=hS
 obtain⟨w0,rfl,hB⟩:=past hb0
 obtain⟨A2,c2,rfl,hc2,_⟩:=h2.slice
 obtain⟨⟨r1,r2,r3,r4,r5,r6,r7,r8,r9,Yw,Yx,Yy⟩,⟨q1,q2,q3,q4,q5⟩,k,hk⟩:=apX s0 s1 l2 s3 s4 s5 s6 l7 s8 s9 s10 s11 o7 hs8
 dsimp only at q1 q2 q3 q4 q5
 subst q3 q4 q5
 refine(jU.calls k s0 s1 A2 c2 l2 s3 s4 s5 s6 (fun _=>True) u7 _ _ s9 s10 s11 r1 r2 r3 r4 r5 r6 _ _ _ Yw Yx Yy w0 w hB (fun W hW=>(h2.kept hW).C.2.2) hc2 h7 (hk k (Nat.le_refl _))).mono ?_
 rintro e w' ⟨v2,v7,rfl,hr2,hr7,hB',hkp⟩
 exact⟨_,M,rfl,.below1 hw (zf hB hB' hkp),_,_,_,_,_,_,_,_,_,_,_,_,rfl,⟨r3,FR.of hr2 (Nat.le_refl _),q1⟩,⟨_,FR.of hr7 (Nat.le_refl _),o7⟩,Int.le_refl _,Int.natCast_nonneg _,q2,hs8⟩
theorem a2o{b:Nat}{w:World}(id:Int)(hb0:b≤w.heap.size):Calls Tryz.prog 88 #[.int .i64 id] w fun e w'=>∃A2 n2 c2 A7 n7 c7,e= .returned (.agg (sC id 1 (.slice A2 n2 c2) (⟨#[]⟩:ByteArray) false false 0 (.slice A7 n7 c7) (⟨#[]⟩:ByteArray) false 8 8).toArray)∧ST b w' (.slice A2 n2 c2) (⟨#[]⟩:ByteArray) 0 (.slice A7 n7 c7) (⟨#[]⟩:ByteArray)∧Below w.heap.size w w':=by
 refine(wu.calls id _ _ _ _ _ _ _ _ _ _ _ _ w rfl).mono ?_
 rintro e w' ⟨v2,v7,rfl,h2,h7,hb⟩
 obtain⟨A2,c2,rfl⟩:=Kd.R_slice h2
 obtain⟨A7,c7,rfl⟩:=Kd.R_slice h7
 exact⟨A2,_,c2,A7,_,c7,rfl,⟨⟨_,FR.of h2 hb0,by decide⟩,⟨_,FR.of h7 hb0,by decide⟩,by decide,by decide,by decide,by decide⟩,hb⟩
theorem Jg{w:World}(s:ByteArray)(hs:s.size≤1000000):Calls Tryz.prog 55 #[.string s] w fun e w'=>∃r,e= .returned (.bool r)∧(r=true→s.size≤16)∧Below w.heap.size w w':=by
 obtain⟨k,hk⟩:=kN s (by omega)
 refine(aZ.calls k s _ w (hk k (Nat.le_refl _))).mono ?_
 rintro e w' ⟨rfl,hd⟩
 obtain⟨n,rfl⟩:=hd.out
 exact⟨_,rfl,fun h=>(MO h).1,dY (Below.refl _ _) n⟩
theorem Wq{w:World}(a:Int):Calls Tryz.prog 59 #[.int .i64 a] w fun e w'=>∃s,e= .returned (.string s)∧s.size=1∧Below w.heap.size w w':=by
 refine(bR.calls a _ w rfl).mono ?_
 rintro e w' ⟨rfl,hb⟩
 exact⟨_,rfl,by rw[gu];rfl,hb⟩
theorem a2p{s:ByteArray}(h:s.size=1):FT 8 s:=⟨fun _=>by omega,by omega⟩
theorem fo{W W':World}{k j:Nat}{cs:List Value}(h:W.rangeAt k j cs)(hb:Below W.heap.size W W'):W'.rangeAt k j cs:=fun q v hq=>jZ hb (h q v hq)
theorem LB{w:World}(f0:Int)(f1:Bool)(f2:Int)(f3:ByteArray)(hs:f3.size≤1000):Calls Tryz.prog 93 #[.agg (fC f0 f1 f2 f3).toArray] w fun e w'=>∃s,e= .returned (.string s)∧s.size=4+f3.size∧Below w.heap.size w w':=by
 have hr:∃r,bO.f 1 f0 f1 f2 f3=some r∧r.size=4+f3.size:=by
  have hb:∀a:Int,∃s,bR.f a=some s∧s.size=1:=fun a=>⟨_,rfl,by rw[gu];rfl⟩
  unfold bO.f
  have hj:∀x:Int,∃r,bO.j0 1 x f0 f1 f2 f3=some r∧r.size=4+f3.size:=by
   intro x
   obtain⟨s1,e1,z1⟩:=hb (f3.size:Int)
   obtain⟨s2,e2,z2⟩:=hb f0
   obtain⟨s3,e3,z3⟩:=hb x
   obtain⟨s4,e4,z4⟩:=hb f2
   unfold bO.j0
   simp only[e1,e2,e3,e4,Option.bind_some]
   rw[if_pos (by omega),if_pos (by rw[aK];omega),if_pos (by rw[aK,aK];omega),if_pos (by rw[aK,aK,aK];omega)]
   exact⟨_,rfl,by rw[aK,aK,aK,aK];omega⟩
  split
  ·exact hj 1
  ·exact hj 0
 obtain⟨r,hr,hz⟩:=hr
 refine(bO.calls 1 f0 f1 f2 f3 r w hr).mono ?_
 rintro e w' ⟨rfl,hb⟩
 exact⟨r,rfl,hz,hb⟩
theorem aa7{w:World}(s:ByteArray)(hs:s.size≤1000000):Calls Tryz.prog 45 #[.string s] w fun e w'=>∃f0 f1 f2 f3 u i,e= .returned (.tuple #[.agg (fC f0 f1 f2 f3).toArray,.int .i64 u,.int .i64 i])∧(0<i→4≤u∧u≤(s.size:Int)∧f3.size≤255∧(f0=8→1≤f3.size))∧Below w.heap.size w w':=by
 obtain⟨⟨f0,f1,f2,f3,u,i⟩,hq,k,hk⟩:=agU s (by omega)
 refine(bL.calls k s f0 f1 f2 f3 u i w (hk k (Nat.le_refl _))).mono ?_
 rintro e w' ⟨rfl,hb⟩
 exact⟨f0,f1,f2,f3,u,i,rfl,hq,hb⟩
def a2q(b:Nat)(M:Nat→Nat→Prop)(w:World)(f:Int→List Value):Ending→World→Prop:=fun e w'=>∃q M',e= .returned (.agg (f q).toArray)∧TS b NX M w M' w'
theorem a2q.out{b:Nat}{M:Nat→Nat→Prop}{w w':World}{f:Int→List Value}{e:Ending}(h:a2q b M w f e w'):∃q M',e= .returned (.agg (f q).toArray)∧TS b NX M w M' w':=h
theorem SL.le{M:Nat→Nat→Prop}{w:World}{T N n c:Nat}{A:Option Addr}(h:SL M w T (.slice A n c) N):n≤N:=by
 obtain⟨A',n',c',e,hn,_⟩:=h
 injection e with _ e _
 omega
theorem SL.news{b:Nat}{M:Nat→Nat→Prop}{W:World}{T k n c N:Nat}(hw:TW b M W)(h:SL M W T (.slice (some ⟨k,0,none⟩) n c) N)(hT:0<wide T):
 ∃news:List Value,news.length=n*wide T∧(∀j u,news[j]?=some u→W.cell? ((⟨k,0,none⟩:Addr).add j)=some u)∧(∀u∈news,u.oneCell'=true)∧∀i,i<n→Elem b W T (seg news.toArray i (wide T)):=by
 obtain⟨A',n',c',e,hn,h|⟨k',cs,e1,hM,hk,hnc,hcs,hcm⟩⟩:=h
 ·injection e with e1 _ _
  rw[h.1]at e1
  cases e1
 ·injection e with e2 e3 e4
  subst e2 e3 e4
  injection e1 with e1
  injection e1 with e1
  subst e1
  obtain⟨hbk,T',cs1,e1,_,hs1,he1⟩:=hw k n hM
  have hh:cs1=cs∧T'=T:=by rw[hk]at e1;injection e1 with e1;injection e1 with e3 e4;exact⟨e3.symm,e4.symm⟩
  obtain⟨rfl,rfl⟩:=hh
  have hlo:(cs1.toList.take (n*wide T')).length=n*wide T':=by rw[List.length_take,Array.length_toList,hcs];exact Nat.min_eq_left (Nat.mul_le_mul_right _ hnc)
  have hE:∀i,i<n→Elem b W T' (seg (cs1.toList.take (n*wide T')).toArray i (wide T')):=fun i hi=>by
   have:seg (cs1.toList.take (n*wide T')).toArray i (wide T')=seg cs1 i (wide T'):=by
    have hj':(i+1)*wide T'≤n*wide T':=Nat.mul_le_mul_right _ hi
    rw[Nat.add_mul,Nat.one_mul]at hj'
    apply List.ext_getElem?
    intro q
    unfold seg
    simp only[List.getElem?_take,List.getElem?_drop]
    by_cases hq:q<wide T'
    ·have:i*wide T'+q<n*wide T':=by omega
     simp only[hq,this,if_true]
    ·simp only[hq,if_false]
   rw[this]
   exact he1 i hi
  refine⟨cs1.toList.take (n*wide T'),hlo,fun j u hu=>?_,fun u hu=>?_,hE⟩
  ·rw[Addr.add_mid,ak hk,Nat.zero_add]
   rw[List.getElem?_take]at hu
   split at hu
   ·simpa using hu
   ·cases hu
  ·obtain⟨j,hj⟩:=List.mem_iff_getElem?.1 hu
   have hjl:j<n*wide T':=by rw[←hlo];exact(List.getElem?_eq_some_iff.1 hj).1
   have hi:j/wide T'<n:=(Nat.div_lt_iff_lt_mul hT).2 hjl
   refine(hE _ hi).one u (List.mem_iff_getElem?.2 ⟨j%wide T',?_⟩)
   unfold seg
   rw[List.getElem?_take,if_pos (Nat.mod_lt _ hT),List.getElem?_drop]
   have:j/wide T'*wide T'+j%wide T'=j:=by rw[Nat.mul_comm];exact Nat.div_add_mod j (wide T')
   rw[this]
   exact hj
section
variable {P:Program} {ops:Array Oper} {rest:List Oper} {o:Oper} {a:Act} {Q:Exit→Act→World→Prop} {W:World} {b:Nat} {X:Nat→Prop} {M0 M:Nat→Nat→Prop} {w0:World} {L:List nC} {G:nD}
theorem aEQ{s x:Operand}{t T N N1 bytes n0 c0 n1 c1:Nat}{A0 A1:Option Addr}{z:Value}(HW:ah (LW b X M0 w0 L G M W))(HS:SL M W T (.slice A0 n0 c0) N)(HR:SL M W T (.slice A1 n1 c1) N1)(hb:b≤W.heap.size)
 (hinfo:(P.info? T).map (fun i=>(i.zero,i.size,i.bytes))=some (some z,wide T,bytes))(hzs:z.cells.size=wide T)(hT:T≠89)(hT0:0<wide T)(hbytes:(N+N1)*bytes≤140737488355328)(h63:N+N1≤maxLen)(ht:P.underlying t=some (.slice T))
 (h:∀A' c' M' w',ah (LW b X M0 w0 L G M' w')→TS b (fun _=>False) M W M' w'→SL M' w' T (.slice A' (n0+n1) c') (N+N1)→wpList P ops Q rest (a.put o.dst (.slice A' (n0+n1) c')) w')
 (hgd:o.guard=none:=by rfl)(ho:o.op= .call {callee:=.builtin .append,args:=#[s,x],argTypes:=#[t,t]}:=by rfl)(hs:a.eval s= .slice A0 n0 c0:=by rfl)(hx:a.eval x= .slice A1 n1 c1:=by rfl):wpList P ops Q (o::rest) a W:=by
 cases hi:P.info? T with
 |none=>rw[hi]at hinfo;cases hinfo
 |some i=>
  rw[hi]at hinfo
  simp only[Option.map_some,Option.some.injEq,Prod.mk.injEq]at hinfo
  obtain⟨hz,hsz,hby⟩:=hinfo
  have hn1:n1≤N1:=HR.le
  have hr:∃A' c' w' M',(Builtin.append_ #[t,t] o.type #[.slice A0 n0 c0,.slice A1 n1 c1]).run P W= .ok (.slice A' (n0+n1) c') w'∧TS b (fun _=>False) M W M' w'∧SL M' w' T (.slice A' (n0+n1) c') (N+N1):=by
   rcases Nat.eq_zero_or_pos n1 with h0|h0
   ·subst h0
    have hle:n0≤c0:=by
     obtain⟨A,n,c,e,hn,h|⟨k,cs,e1,hM,hk,hnc,hcs,hcm⟩⟩:=HS
     ·injection e with e1 e2 e3;omega
     ·injection e with e1 e2 e3;omega
    have hsrc:Src P i.size t (.slice A1 0 c1) 0 [] W:=by
     obtain⟨A,n,c,e,hn,⟨h1,h2,h3⟩|⟨k,cs,e1,hM,hk,hnc,hcs,hcm⟩⟩:=HR
     ·injection e with e1 e2 e3
      subst e1 h1
      exact Src.ofNil W ht c1
     ·injection e with e2 e3 e4
      subst e2 e1
      exact Src.ofSlice W ht _ 0 c1 [] (by simp) (fun j u hu=>by simp at hu) (fun u hu=>by cases hu)
    exact⟨A0,c0,W,M,run_append_nothing W t t o.type T i ht hi A0 n0 c0 hle _ hsrc,.refl HW.out.ts.tw,HS.mono (by omega)⟩
   ·obtain⟨k,rfl,hM,_⟩:=HR.has h0
    obtain⟨news,hl,hnews,h1,hE⟩:=HR.news HW.out.ts.tw hT0
    obtain⟨A',c',w',M',hr,hts,hsl⟩:=Lu (P:=P) (c:=c1) (ty:=o.type) ht hi hz hsz hby hzs hT HW.out.ts.tw hb HS hl hnews h1 h0 hE (Nat.le_trans (Nat.mul_le_mul_right _ (by omega)) hbytes) (by omega)
    exact⟨A',c',w',M',hr,hts,hsl.mono (by omega)⟩
  obtain⟨A',c',w',M',hr,hts,hsl⟩:=hr
  refine wpList_plain hgd fun K hK=>?_
  unfold Oper.wp execOp
  simp only[ho,resolve,invoke,builtin,Sem.run_bind,Sem.run_pure,Result.andThen_ok,List.map_toArray,List.map_cons,List.map_nil,hs,hx,hr]
  exact hK _ _ (h A' c' M' w' ⟨HW.out.call hts⟩ hts hsl)
end
theorem Jh{b:Nat}{w:World}{l:List bf}(v:Value)(hb0:b≤w.heap.size)(h:FR b w v l)(hl:l.length≤1000000):Calls Tryz.prog 50 #[v] w fun e w'=>∃A c,e= .returned (.slice A l.length c)∧FR b w' (.slice A l.length c) l∧Below w.heap.size w w':=by
 obtain⟨A,c,rfl,hc,hr⟩:=h.slice
 refine(nR.calls A c l l w hr hc (by unfold nR.f;simp only[Option.bind_some,List.length_nil,List.nil_append];rw[if_pos (by omega)])).mono ?_
 rintro e w' ⟨v,rfl,h2,hb⟩
 obtain⟨A',c',rfl⟩:=Kd.R_slice h2
 exact⟨A',c',rfl,FR.of h2 hb0,hb⟩
theorem GD{b:Nat}{w:World}{x:Int}(v:Value)(hb0:b≤w.heap.size)(h:TV b w v x):Calls Tryz.prog 50 #[v] w fun e w'=>∃A n c,e= .returned (.slice A n c)∧TV b w' (.slice A n c) x∧Below w.heap.size w w':=by
 obtain⟨l,h,o⟩:=h
 refine(Jh v hb0 h (Nat.le_trans (nA o).2 (by decide))).mono ?_
 rintro e w' ⟨A,c,rfl,h2,hb⟩
 exact⟨A,_,c,rfl,⟨l,h2,o⟩,hb⟩
theorem GH{b:Nat}{w:World}(v:Value)(hb0:b≤w.heap.size)(h:HV b w v):Calls Tryz.prog 50 #[v] w fun e w'=>∃A n c,e= .returned (.slice A n c)∧HV b w' (.slice A n c)∧Below w.heap.size w w':=by
 obtain⟨l,h,o⟩:=h
 refine(Jh v hb0 h (Nat.le_trans ((pG _).1 o).2 (by decide))).mono ?_
 rintro e w' ⟨A,c,rfl,h2,hb⟩
 exact⟨A,_,c,rfl,⟨l,h2,o⟩,hb⟩
def WV(b:Nat)(M:Nat→Nat→Prop)(w:World)(N:Nat)(E:Value):Prop:=∃x0 v1 x2 v3 x4 x5 v6 x7 x8 v9 x10 y0 u1 y2 u3 y4 y5 u6 y7 y8 u9 oH s t,E= .agg (wC x0 v1 x2 v3 x4 x5 v6 x7 x8 v9 x10 y0 u1 y2 u3 y4 y5 u6 y7 y8 u9 oH s t).toArray∧ET b M w N 700 v1 x2 v3 x4 x5 v6 v9∧ET b M w N 700 u1 y2 u3 y4 y5 u6 u9∧s.size≤800∧t.size≤800
def Ji(b:Nat)(M:Nat→Nat→Prop)(w:World)(N:Nat):Ending→World→Prop:=fun e w'=>∃E' M',e= .returned E'∧TS b NX M w M' w'∧WV b M' w' N E'
section
variable {b N:Nat} {M:Nat→Nat→Prop} {w w':World} {e:Ending} {E:Value}
theorem WV.out(h:WV b M w N E):∃x0 v1 x2 v3 x4 x5 v6 x7 x8 v9 x10 y0 u1 y2 u3 y4 y5 u6 y7 y8 u9 oH s t,E= .agg (wC x0 v1 x2 v3 x4 x5 v6 x7 x8 v9 x10 y0 u1 y2 u3 y4 y5 u6 y7 y8 u9 oH s t).toArray∧ET b M w N 700 v1 x2 v3 x4 x5 v6 v9∧ET b M w N 700 u1 y2 u3 y4 y5 u6 u9∧s.size≤800∧t.size≤800:=h
theorem Ji.out(h:Ji b M w N e w'):∃E' M',e= .returned E'∧TS b NX M w M' w'∧WV b M' w' N E':=h
end
theorem apY{w:World}(n lo hi:Int):Calls Tryz.prog 44 #[.int .i64 n,.int .i64 lo,.int .i64 hi] w fun e w'=>∃r,e= .returned (.bool r)∧(r=true→lo≤n∧n≤hi)∧Below w.heap.size w w':=by
 have hr:∃r,cK.f n lo hi=some r∧(r=true→lo≤n∧n≤hi):=by
  unfold cK.f
  split
  ·exact⟨_,rfl,fun h=>⟨by omega,of_decide_eq_true h⟩⟩
  ·exact⟨_,rfl,fun h=>by cases h⟩
 obtain⟨r,hr,hz⟩:=hr
 refine(cK.calls n lo hi r w hr).mono ?_
 rintro e w' ⟨rfl,hd⟩
 obtain⟨k,rfl⟩:=hd.out
 exact⟨r,rfl,hz,dY (Below.refl _ _) k⟩
theorem WV.out4{b N:Nat}{M:Nat→Nat→Prop}{w:World}{E:Value}(h:WV b M w N E):∃x0 A1 n1 c1 x2 A3 n3 c3 x4 x5 A6 n6 c6 x7 x8 A9 n9 c9 x10 y0 B1 m1 k1 y2 B3 m3 k3 y4 y5 B6 m6 k6 y7 y8 B9 m9 k9 oH s t,E= .agg (wC x0 (.slice A1 n1 c1) x2 (.slice A3 n3 c3) x4 x5 (.slice A6 n6 c6) x7 x8 (.slice A9 n9 c9) x10 y0 (.slice B1 m1 k1) y2 (.slice B3 m3 k3) y4 y5 (.slice B6 m6 k6) y7 y8 (.slice B9 m9 k9) oH s t).toArray∧ET b M w N 700 (.slice A1 n1 c1) x2 (.slice A3 n3 c3) x4 x5 (.slice A6 n6 c6) (.slice A9 n9 c9)∧ET b M w N 700 (.slice B1 m1 k1) y2 (.slice B3 m3 k3) y4 y5 (.slice B6 m6 k6) (.slice B9 m9 k9)∧s.size≤800∧t.size≤800∧n6≤N∧n9≤N∧m6≤N∧m9≤N:=by
 obtain⟨x0,v1,x2,v3,x4,x5,v6,x7,x8,v9,x10,y0,u1,y2,u3,y4,y5,u6,y7,y8,u9,oH,s,t,rfl,e,f,hs,ht⟩:=h
 obtain⟨A1,n1,c1,A3,n3,c3,A6,n6,c6,A9,n9,c9,rfl,rfl,rfl,rfl,h6,h9⟩:=e.form4
 obtain⟨B1,m1,k1,B3,m3,k3,B6,m6,k6,B9,m9,k9,rfl,rfl,rfl,rfl,i6,i9⟩:=f.form4
 exact⟨x0,A1,n1,c1,x2,A3,n3,c3,x4,x5,A6,n6,c6,x7,x8,A9,n9,c9,x10,y0,B1,m1,k1,y2,B3,m3,k3,y4,y5,B6,m6,k6,y7,y8,B9,m9,k9,oH,s,t,rfl,e,f,hs,ht,h6,h9,i6,i9⟩
section
variable {P:Program} {ops:Array Oper} {rest:List Oper} {o:Oper} {a:Act} {Q:Exit→Act→World→Prop} {W:World} {b:Nat} {X:Nat→Prop} {M0 M:Nat→Nat→Prop} {w0:World} {L:List nC} {G:nD}
theorem lfl{N:Tmp}(HW:ah (LW b X M0 w0 L G M W))(hb:b≤W.heap.size)(xs:List bf)(inner:List Value){m:Nat}(em:xs.length=m)(h:∀A c w1,ah (LW b X M0 w0 L G M w1)→FR b w1 (.slice A m c) xs→wpList P ops Q rest (a.put o.dst (.slice A m c)) w1)
 (hd:o.dst=some N:=by rfl)(hgd:o.guard=none:=by rfl)(hm:m≤9223372036854775807:=by decide)
 (hr:(execOp a.eval o).run P W= .ok (.value (.slice (some ⟨W.heap.size,0,none⟩) m m)) (W.alloc (.cells inner.toArray 89)):=by first|(go_simp;done)|(go_simp;rfl))
 (hp:dm (iH.M W W.heap.size (fun _=>True)) 3 xs inner:=by repeat(first|exact dm.none _ _|refine dm.c3 (lK _ _ _ _) ?_)):wpList P ops Q (o::rest) a W:=by
 subst em
 refine Kd.R_lit iH W.heap.size 89 hgd hd (xs:=xs) (inner:=inner) (ok:=fun _=>True) (okp:=fun _=>True) hr hp (fun _ hk=>hk) trivial (Below.refl _ _) (Nat.le_refl _) hm ?_
 intro v w1 ho hB _ _
 obtain⟨A,c,rfl⟩:=Kd.R_slice ho
 exact h A c w1 ⟨HW.out.quiet hB⟩ (FR.of ho hb)
end
theorem Jj{b:Nat}{w:World}{l:List bf}{r:Bool}(v:Value)(h:FR b w v l)(hr:jP l=r)(hl:l.length≤5000000)(hs:∀x∈l,iM x):Calls Tryz.prog 54 #[v] w fun e w'=>e= .returned (.bool r)∧Below w.heap.size w w':=by
 obtain⟨A,c,rfl,hc,hR⟩:=h.slice
 obtain⟨k,hk⟩:=og l hl hs
 subst hr
 exact bg.calls k A c l _ w hR hc (hk k (Nat.le_refl _))
theorem ah0(n:Nat)(hn:n≤100000):EvQ (fun k=>dK.f k (n:Int)) (fun r=>r.size≤n+1):=by
 induction n using Nat.strongRecOn with
 |_ n ih=>
  refine EvQ.step (fun k=>by rw[dK.f]) (EvQ.neg (by omega) (EvQ.neg (by omega) (EvQ.ite (fun _=>EvQ.now (by rw[gu];simp)) (fun h=>?_))))
  have e:wrap64 (Int.tdiv (n:Int) 10)=((n/10:Nat):Int):=by
   have:Int.tdiv (n:Int) 10=((n/10:Nat):Int):=rfl
   rw[this,dL _ (by omega) (by omega)]
  rw[e]
  refine EvQ.bind (ih (n/10) (by omega) (by omega)) (fun s hs=>?_)
  simp only[Option.bind_some]
  refine EvQ.pos (by rw[gu];simp only[List.length_cons,List.length_nil];omega) (EvQ.now ?_)
  rw[aK,gu]
  simp only[List.length_cons,List.length_nil]
  omega
theorem ah1{w:World}(n:Int)(h0:0≤n)(h1:n≤100000):Calls Tryz.prog 87 #[.int .i64 n] w fun e w'=>∃s,e= .returned (.string s)∧s.size≤100001∧Below w.heap.size w w':=by
 obtain⟨m,rfl⟩:=Int.eq_ofNat_of_zero_le h0
 obtain⟨r,hr,k,hk⟩:=ah0 m (by omega)
 refine(dK.calls k (m:Int) r w (hk k (Nat.le_refl _))).mono ?_
 rintro e w' ⟨rfl,hb⟩
 exact⟨r,rfl,by omega,hb⟩
def DL(p d:ByteArray):List bf:=[⟨(⟨#[58,112,97,116,104]⟩:ByteArray),p,false⟩,⟨(⟨#[107,105,110,100]⟩:ByteArray),(⟨#[116,101,120,116]⟩:ByteArray),false⟩,⟨(⟨#[115,105,122,101]⟩:ByteArray),d,false⟩]
theorem Jk(p d:ByteArray):(DL p d).length=3:=rfl
theorem Q8(p d:ByteArray):(DL p d).length≤5000000:=by rw[Jk];decide
theorem Q9{p d:ByteArray}(hp:p.size≤4000000)(hd:d.size≤4000000):∀x∈DL p d,iM x:=by
 intro x hx
 simp only[DL,List.mem_cons,List.not_mem_nil,or_false]at hx
 rcases hx with rfl|rfl|rfl
 ·exact⟨show(5:Nat)≤4000000 by decide,hp⟩
 ·exact⟨by decide,by decide⟩
 ·exact⟨show(4:Nat)≤4000000 by decide,hd⟩
theorem Sw(m:List Int)(p:Int)(hm:Bytes m)(hm1:m.length≤2000)(hp:0≤p)(hp1:p≤1000000000):EvQ (fun k=>jK.f k m p) (fun r=>r.1.size≤20∧r.2=p+1):=by
 unfold jK.f
 refine EvQ.bind (of_ev m p _ hm hm1 hp hp1 (by simp)) ?_
 rintro⟨c,q⟩ ⟨hc,rfl⟩
 refine EvQ.now ⟨?_,rfl⟩
 simp only[List.mem_cons,List.not_mem_nil,or_false]at hc
 rcases hc with rfl|rfl|rfl|rfl|rfl|rfl|rfl<;>(dsimp only;decide)
theorem Sy(m:List Int)(hm:Bytes m)(hm1:m.length≤2000)(d:Nat):∀(s:ByteArray)(p:Int),s.size+d≤16→0≤p→p+d≤900000000→
 EvQ (fun k=>dN.l0 k s (d:Int) m p) (fun r=>r.1.size≤16∧0≤r.2∧r.2≤p+d):=by
 induction d with
 |zero=>
  intro s p hs hp hp1
  exact EvQ.step (fun k=>by rw[dN.l0]) (EvQ.neg (by omega) (EvQ.now ⟨by omega,hp,by omega⟩))
 |succ d ih=>
  intro s p hs hp hp1
  have e:wrap64 (((d+1:Nat):Int)-1)=(d:Int):=by rw[dL _ (by omega) (by omega)];omega
  refine EvQ.step (fun k=>by rw[dN.l0]) ?_
  simp only[e]
  refine EvQ.pos (by omega) (EvQ.bind (of_ev m p _ hm hm1 hp (by omega) (by simp)) ?_)
  rintro⟨c,q⟩ ⟨hc,rfl⟩
  have hc1:c.size=1:=by
   simp only[List.mem_cons,List.not_mem_nil,or_false]at hc
   rcases hc with rfl|rfl|rfl|rfl|rfl|rfl<;>rfl
  dsimp only
  refine EvQ.pos (by omega) ((ih (s++c) (p+1) (by rw[aK];omega) (by omega) (by omega)).mono ?_)
  rintro r ⟨h1,h2,h3⟩
  exact⟨h1,h2,by omega⟩
theorem Sz(m:List Int)(p:Int)(hm:Bytes m)(hm1:m.length≤2000)(hp:0≤p)(hp1:p≤800000000):EvQ (fun k=>dN.f k m p) (fun r=>r.1.size≤16∧0≤r.2∧r.2≤p+17):=by
 unfold dN.f
 refine EvQ.bind (kF m p 17 hm hm1 hp (by omega) (by omega)) ?_
 rintro⟨c,q⟩ ⟨hc,hc1,rfl⟩
 dsimp only at*
 obtain⟨n,rfl⟩:=Int.eq_ofNat_of_zero_le hc
 refine(Sy m hm hm1 n (⟨#[]⟩:ByteArray) (p+1) (by rw[lY];omega) (by omega) (by omega)).mono ?_
 rintro r ⟨h1,h2,h3⟩
 exact⟨h1,h2,by omega⟩
def RV(wr:World)(l:List Int)(v:Value):Prop:=∃A c,v= .slice A l.length c∧Kd.C (Kd.int .u8) wr A l.length l
structure RB(b:Nat)(wr:World)(g:Nat)(l:List Int):Prop where
 be:b=wr.heap.size
 ge:b≤g
 by8:Bytes l
 len:l.length≤2000
abbrev RX(g:Nat):Nat→Prop:=fun k=>k=g
abbrev rC(v:Value)(x:Int):List Value:=[v,.int .i64 x]
structure RQ(wr:World)(g:Nat)(l:List Int)(N:Int)(w w':World)(v':Value)(x':Int):Prop where
 at_:w'.heap[g]?=some (.cells (rC v' x').toArray 75 (0,0))
 rv:RV wr l v'
 kb:ax w w' g none
 b0:Below 0 w w'
 x0:0≤x'
 x1:x'≤N
section
variable {b g i:Nat} {l:List Int} {wr w w' w1 W W':World} {M M0 M':Nat→Nat→Prop} {X:Nat→Prop} {L:List nC} {G:nD} {v v':Value} {x x' N:Int}
theorem RB.is(h:RB b wr g l)(hg:w.heap[g]?=some (.cells (rC v x).toArray 75 (0,0)))(hv:RV wr l v):aM wr w g l x:=by
 obtain⟨A,c,rfl,hC⟩:=hv
 exact⟨A,c,hg,h.be▸h.ge,hC⟩
theorem RB.quiet(h:Below wr.heap.size wr w)(hI:aM wr w' g l x')(hB:Below wr.heap.size wr w')(hk:ax w w' g none)(h0:0≤x')(h1:x'≤N):∃v',RQ wr g l N w w' v' x':=by
 obtain⟨A,c,h2,_,hC⟩:=hI
 exact⟨_,h2,⟨A,c,rfl,hC⟩,hk,⟨hB.os.trans h.os.symm,hB.tape.trans h.tape.symm,hB.output.trans h.output.symm,hk.1,fun _ h=>absurd h (Nat.not_lt_zero _)⟩,h0,h1⟩
theorem TS.under(h:TS b X M w M' w')(hb:b=wr.heap.size)(hB:Below wr.heap.size wr w)(hM:TW b M w)(hX:∀k,X k→b≤k):Below wr.heap.size wr w':=
 ⟨h.os.os.trans hB.os,h.os.tape.trans hB.tape,h.os.output.trans hB.output,Nat.le_trans hB.size h.size,fun k hk=>(h.keep k (Nat.lt_of_lt_of_le hk hB.size) (fun hx=>by have:=hX k hx;omega) (fun n hm=>by have:=(hM k n hm).1;omega)).trans (hB.block k hk)⟩
theorem LW.under(h:LW b (RX g) M0 w L G M W)(hR:RB b wr g l)(hB:Below wr.heap.size wr w)(hM:TW b M0 w):Below wr.heap.size wr W:=h.ts.under hR.be hB hM (fun _ e=>e▸hR.ge)
theorem LW.startR(h:TW b M w)(hg:w.heap[g]?=some (.cells (rC v x).toArray 75 (0,0)))(hn:∀n,¬M g n)(k:G M w)(gm:Mon b G):LW b (RX g) M w [⟨g,rC v x,75⟩] G M w:=
 ⟨.refl h,by simp,fun y hy=>by obtain rfl:=List.mem_singleton.1 hy;exact⟨hg,(by decide:(75:Nat)≠89),hn,.inl rfl⟩,k,gm⟩
theorem LW.rd(h:LW b X M0 w L G M W)(i:Nat)(hq:RQ wr g l N W W' v' x'){cs:List Value}(ei:L[i]?=some ⟨g,cs,75⟩:=by rfl):LW b X M0 w (L.set i ⟨g,rC v' x',75⟩) G M W':=h.upd i ei hq.at_ hq.kb hq.b0
structure RT(b:Nat)(wr:World)(g:Nat)(l:List Int)(N:Int)(M:Nat→Nat→Prop)(w:World)(M':Nat→Nat→Prop)(w':World)(v':Value)(x':Int):Prop where
 ts:TS b (RX g) M w M' w'
 at_:w'.heap[g]?=some (.cells (rC v' x').toArray 75 (0,0))
 rv:RV wr l v'
 x0:0≤x'
 x1:x'≤N
theorem LW.rt(h:LW b X M0 w L G M W)(i:Nat)(k:RT b wr g l N M W M' W' v' x'){cs:List Value}(ei:L[i]?=some ⟨g,cs,75⟩:=by rfl):LW b X M0 w (L.set i ⟨g,rC v' x',75⟩) G M' W':=by
 obtain⟨h1,h2,h3,h4⟩:=h.bx _ (List.mem_of_getElem? ei)
 have hi:i<L.length:=(List.getElem?_eq_some_iff.1 ei).1
 refine⟨h.ts.trans k.ts (fun k e=>e▸h4),?_,fun y hy=>?_,h.gm _ _ _ _ _ k.ts h.g,h.gm⟩
 ·have:(L.set i ⟨g,rC v' x',75⟩).map nC.g=L.map nC.g:=by
   rw[List.map_set]
   refine List.ext_getElem? fun j=>?_
   by_cases hj:i=j
   ·subst hj
    rw[List.getElem?_set_self (by simpa using hi),List.getElem?_map,ei];rfl
   ·rw[List.getElem?_set_ne hj]
  rw[this];exact h.nd
 ·have hn:∀y:nC,W.heap[y.g]?=some (.cells y.cs.toArray y.T (0,0))→(∀n,¬M y.g n)→∀n,¬M' y.g n:=fun y e hm n hM=>(k.ts.new _ n hM).elim (fun⟨m,h⟩=>hm m h) (fun h=>Nat.not_lt.2 h (gJ e))
  obtain⟨j,hj⟩:=List.mem_iff_getElem?.1 hy
  by_cases hij:i=j
  ·subst hij
   rw[List.getElem?_set_self hi]at hj
   obtain rfl:=Option.some.inj hj
   exact⟨k.at_,h2,hn ⟨g,cs,75⟩ h1 h3,h4⟩
  ·rw[List.getElem?_set_ne hij]at hj
   have hm:=List.mem_of_getElem? hj
   obtain⟨g1,g2,g3,g4⟩:=h.bx y hm
   have hne:y.g≠g:=fun eg=>by
    have hp:=List.pairwise_iff_getElem.1 h.nd
    have hi':i<(L.map nC.g).length:=by simpa using hi
    have hjl:j<L.length:=(List.getElem?_eq_some_iff.1 hj).1
    have hj':j<(L.map nC.g).length:=by simpa using hjl
    have ea:(L.map nC.g)[i]=g:=by rw[List.getElem_map];rw[(List.getElem?_eq_some_iff.1 ei).2]
    have eb:(L.map nC.g)[j]=g:=by rw[List.getElem_map];rw[(List.getElem?_eq_some_iff.1 hj).2];exact eg
    rcases Nat.lt_or_gt_of_ne hij with hlt|hlt
    ·exact hp i j hi' hj' hlt (ea.trans eb.symm)
    ·exact hp j i hj' hi' hlt (eb.trans ea.symm)
   exact⟨(k.ts.keep y.g (gJ g1) hne g3).trans g1,g2,hn y g1 g3,g4⟩
theorem Br{p:Prop}{L':List nC}{cs:List Value}(HW:ah (LW b X M0 w L G M W))(i:Nat)(hq:RQ wr g l N W W' v' x')(ei:L[i]?=some ⟨g,cs,75⟩)(h:ah (LW b X M0 w L' G M W')→RV wr l v'→0≤x'→x'≤N→p)(hL:L.set i ⟨g,rC v' x',75⟩=L':=by(simp only[List.set_cons_zero,List.set_cons_succ];rfl)):p:=by
 subst hL
 exact h ⟨HW.out.rd i hq ei⟩ hq.rv hq.x0 hq.x1
theorem rtg{p:Prop}{L':List nC}{cs:List Value}(HW:ah (LW b X M0 w L G M W))(i:Nat)(k:RT b wr g l N M W M' W' v' x')(ei:L[i]?=some ⟨g,cs,75⟩)(h:ah (LW b X M0 w L' G M' W')→RV wr l v'→0≤x'→x'≤N→p)(hL:L.set i ⟨g,rC v' x',75⟩=L':=by(simp only[List.set_cons_zero,List.set_cons_succ];rfl)):p:=by
 subst hL
 exact h ⟨HW.out.rt i k ei⟩ k.rv k.x0 k.x1
theorem jc(n:Int)(hR:RB b wr g l)(hB:Below wr.heap.size wr w)(hg:w.heap[g]?=some (.cells (rC v x).toArray 75 (0,0)))(hv:RV wr l v)(h0:0≤x)(h1:x≤1000000)(hn:1≤n):
 Calls Tryz.prog 22 #[.pointer (some ⟨g,0,none⟩),.int .i64 n] w fun e w'=>∃r v' x',e= .returned (.int .i64 r)∧0≤r∧r<n∧RQ wr g l (x+1) w w' v' x':=by
 obtain⟨⟨r,x'⟩,⟨hr,hr1,rfl⟩,k,hk⟩:=kF l x n hR.by8 hR.len h0 (by omega) hn
 refine(au.calls k g l x n r _ wr w (hR.is hg hv) hB (hk k (Nat.le_refl _))).mono ?_
 rintro e w' ⟨rfl,hI,hB',hk'⟩
 obtain⟨v',hq⟩:=RB.quiet hB hI hB' hk' (N:=x+1) (by omega) (by omega)
 exact⟨r,v',_,rfl,hr,hr1,hq⟩
theorem LC(hR:RB b wr g l)(hB:Below wr.heap.size wr w)(hg:w.heap[g]?=some (.cells (rC v x).toArray 75 (0,0)))(hv:RV wr l v)(h0:0≤x)(h1:x≤1000000):
 Calls Tryz.prog 69 #[.pointer (some ⟨g,0,none⟩)] w fun e w'=>∃s v' x',e= .returned (.string s)∧s.size≤20∧RQ wr g l (x+1) w w' v' x':=by
 obtain⟨⟨r,x'⟩,⟨hr,rfl⟩,k,hk⟩:=Sw l x hR.by8 hR.len h0 (by omega)
 refine(jK.calls k g l x r _ wr w (hR.is hg hv) hB (hk k (Nat.le_refl _))).mono ?_
 rintro e w' ⟨rfl,hI,hB',hk'⟩
 obtain⟨v',hq⟩:=RB.quiet hB hI hB' hk' (N:=x+1) (by omega) (by omega)
 exact⟨r,v',_,rfl,hr,hq⟩
theorem LD(hR:RB b wr g l)(hB:Below wr.heap.size wr w)(hg:w.heap[g]?=some (.cells (rC v x).toArray 75 (0,0)))(hv:RV wr l v)(h0:0≤x)(h1:x≤1000000):
 Calls Tryz.prog 70 #[.pointer (some ⟨g,0,none⟩)] w fun e w'=>∃s v' x',e= .returned (.string s)∧s.size≤16∧RQ wr g l (x+17) w w' v' x':=by
 obtain⟨⟨r,x'⟩,⟨hr,hx0,hx1⟩,k,hk⟩:=Sz l x hR.by8 hR.len h0 (by omega)
 refine(dN.calls k g l x r _ wr w (hR.is hg hv) hB (hk k (Nat.le_refl _))).mono ?_
 rintro e w' ⟨rfl,hI,hB',hk'⟩
 obtain⟨v',hq⟩:=RB.quiet hB hI hB' hk' (N:=x+17) hx0 hx1
 exact⟨r,v',_,rfl,hr,hq⟩
end
section
variable {P:Program} {ops:Array Oper} {rest:List Oper} {o:Oper} {a:Act} {Q:Exit→Act→World→Prop} {W:World} {b:Nat} {X:Nat→Prop} {M0 M:Nat→Nat→Prop} {w0:World} {L:List nC} {G:nD}
theorem a2r(x y:Int):x≤(if x<y then y else x)∧y≤(if x<y then y else x)∧((if x<y then y else x)=x∨(if x<y then y else x)=y):=by split<;>omega
theorem aES{s t:Operand}{ts:Array TypeId}(x y:Int)(h:∀q,x≤q→y≤q→(q=x∨q=y)→wpList P ops Q rest (a.put o.dst (.int .i64 q)) W)
 (hgd:o.guard=none:=by rfl)(ho:o.op= .call {callee:=.builtin .max,args:=#[s,t],argTypes:=ts}:=by rfl)(hs:a.eval s= .int .i64 x:=by rfl)(ht:a.eval t= .int .i64 y:=by rfl):wpList P ops Q (o::rest) a W:=by
 refine wpList_plain hgd fun K hK=>?_
 unfold Oper.wp execOp
 simp only[ho,resolve,invoke,builtin,Sem.run_bind,Sem.run_pure,Result.andThen_ok,List.map_toArray,List.map_cons,List.map_nil,hs,ht,bV,bA]
 obtain⟨h1,h2,h3⟩:=a2r x y
 exact hK _ _ (h _ h1 h2 h3)
def isI:Value→Bool
 |.int .i64 _=>true
 |_=>false
theorem aa8{u:Value}(h:isI u=true):∃q,u= .int .i64 q:=by
 unfold isI at h
 split at h
 ·exact⟨_,rfl⟩
 ·cases h
theorem lli{ty:TypeId}{x:Operand}{d:TypeDesc}{g:Nat}{cs:List Value}(HW:ah (LW b X M0 w0 L G M W))(i:Nat)(r:Int)(n:Nat)(h0:0≤r)(h1:r<(n:Int))(hu:P.underlying ty=some d)(h:∀q,wpList P ops Q rest (a.put o.dst (.int .i64 q)) W)
 (ei:L[i]?=some ⟨g,cs,3⟩:=by rfl)(hn:cs.length=n:=by rfl)(hcs:cs.all isI=true:=by rfl)(hg:o.guard=none:=by rfl)(ho:o.op= .load ty x:=by rfl)(hx:a.eval x= .pointer (some ⟨g,r.toNat,none⟩):=by rfl)(hd:d.isRow=false:=by rfl):wpList P ops Q (o::rest) a W:=by
 have hl:r.toNat<cs.length:=by omega
 obtain⟨q,hq⟩:=aa8 (List.all_eq_true.1 hcs _ (List.getElem_mem hl))
 refine vH (v:=.int .i64 q) hg ho hx ?_ hu hd (h q)
 rw[ak (HW.out.at i ei)]
 simp only[List.getElem?_toArray]
 rw[List.getElem?_eq_getElem hl,hq]
end
theorem a2s{b:Nat}{w:World}(hb0:b≤w.heap.size):Calls Tryz.prog 86 #[] w fun e w'=>∃A n c,e= .returned (.agg (tC (.slice A n c) 64).toArray)∧TV b w' (.slice A n c) 64∧Below w.heap.size w w':=by
 refine(sP.calls _ _ w rfl).mono ?_
 rintro e w' ⟨v,rfl,h,hb⟩
 obtain⟨A,c,rfl⟩:=Kd.R_slice h
 exact⟨A,_,c,rfl,⟨_,FR.of h hb0,by decide⟩,hb⟩
def VV(E:Value):Prop:=∃e0 e1 e2 e3 e4,E= .agg (vC e0 e1 e2 e3 e4).toArray∧e3.size≤20∧e4.size≤20
theorem VV.out{E:Value}(h:VV E):∃e0 e1 e2 e3 e4,E= .agg (vC e0 e1 e2 e3 e4).toArray∧e3.size≤20∧e4.size≤20:=h
def a2t(b:Nat)(wr:World)(g:Nat)(l:List Int)(N:Int)(M:Nat→Nat→Prop)(w:World):Ending→World→Prop:=fun e w'=>∃E' M' v' x',e= .returned E'∧RT b wr g l N M w M' w' v' x'∧VV E'
theorem a2t.out{b:Nat}{wr:World}{g:Nat}{l:List Int}{N:Int}{M:Nat→Nat→Prop}{w:World}{e:Ending}{w':World}(h:a2t b wr g l N M w e w'):∃E' M' v' x',e= .returned E'∧RT b wr g l N M w M' w' v' x'∧VV E':=h
def a2u(b:Nat)(wr:World)(g:Nat)(l:List Int)(N:Int)(M:Nat→Nat→Prop)(w:World)(K:Nat):Ending→World→Prop:=fun e w'=>∃V E' M' v' x',e= .returned (.tuple #[V,E'])∧RT b wr g l N M w M' w' v' x'∧WV b M' w' K E'
theorem a2u.out{b K:Nat}{wr:World}{g:Nat}{l:List Int}{N:Int}{M:Nat→Nat→Prop}{w:World}{e:Ending}{w':World}(h:a2u b wr g l N M w K e w'):∃V E' M' v' x',e= .returned (.tuple #[V,E'])∧RT b wr g l N M w M' w' v' x'∧WV b M' w' K E':=h
theorem LW.noM{b g:Nat}{X:Nat→Prop}{M0 M:Nat→Nat→Prop}{w0 w:World}{L:List nC}{G:nD}(h:LW b X M0 w0 L G M w)(i:Nat){cs:List Value}{T:Nat}(ei:L[i]?=some ⟨g,cs,T⟩):∀n,¬M g n:=(h.bx _ (List.mem_of_getElem? ei)).2.2.1
abbrev TD(b:Nat)(w:World)(v:Value):Prop:=∃l,FR b w v l∧Gs l∧l.length≤103
abbrev TDF(b:Nat)(v:Value):nD:=fun _ w=>TD b w v
theorem Mon.td{b:Nat}(v:Value):Mon b (TDF b v):=fun _ _ _ _ _ t ⟨l,h,o⟩=>⟨l,h.stay t.stay,o⟩
theorem a2v{l:List bf}{m:Int}(h:eO l m=true):Gs l∧l.length≤103:=by
 have h2:=(nA h).2
 refine⟨fun x hx=>?_,by omega⟩
 unfold eO jI at h
 simp only[Bool.and_eq_true,List.all_eq_true]at h
 have:=ny (h.1.2 x hx).1
 omega
theorem rD{b:Nat}{w:World}{v:Value}{x:Int}(h:TV b w v x):TD b w v:=by
 obtain⟨l,h,o⟩:=h
 exact⟨l,h,a2v o⟩
structure ED(b:Nat)(M:Nat→Nat→Prop)(w:World)(N:Nat)(v1 v3:Value)(x5:ByteArray)(v6 v9:Value):Prop where
 t1:TD b w v1
 t3:TD b w v3
 c5:x5.size≤700
 s6:SL M w 39 v6 N
 s9:SL M w 42 v9 N
theorem ED.ts{b N N':Nat}{M M':Nat→Nat→Prop}{X:Nat→Prop}{w w':World}{v1 v3 v6 v9:Value}{x5:ByteArray}(h:ED b M w N v1 v3 x5 v6 v9)(k:TS b X M w M' w')(hN:N≤N'):ED b M' w' N' v1 v3 x5 v6 v9:=by
 obtain⟨⟨l1,h1,o1⟩,⟨l3,h3,o3⟩,c5,s6,s9⟩:=h
 exact⟨⟨l1,h1.stay k.stay,o1⟩,⟨l3,h3.stay k.stay,o3⟩,c5,(s6.ts k).mono hN,(s9.ts k).mono hN⟩
abbrev EDF(b N:Nat)(v1 v3:Value)(x5:ByteArray)(v6 v9:Value):nD:=fun M w=>ED b M w N v1 v3 x5 v6 v9
theorem Mon.ed{b:Nat}(N:Nat)(v1 v3:Value)(x5:ByteArray)(v6 v9:Value):Mon b (EDF b N v1 v3 x5 v6 v9):=fun _ _ _ _ _ t h=>h.ts t (Nat.le_refl _)
theorem ED.form4{b N:Nat}{w:World}{M:Nat→Nat→Prop}{v1 v3 v6 v9:Value}{x5:ByteArray}(E:ED b M w N v1 v3 x5 v6 v9):∃A1 n1 c1 A3 n3 c3 A6 n6 c6 A9 n9 c9,v1= .slice A1 n1 c1∧v3= .slice A3 n3 c3∧v6= .slice A6 n6 c6∧v9= .slice A9 n9 c9∧n6≤N∧n9≤N:=by
 obtain⟨l1,h1,_⟩:=E.t1
 obtain⟨l3,h3,_⟩:=E.t3
 obtain⟨A1,c1,e1,_⟩:=h1.slice
 obtain⟨A3,c3,e3,_⟩:=h3.slice
 obtain⟨A6,n6,c6,e6,h6,_⟩:=E.s6
 obtain⟨A9,n9,c9,e9,h9,_⟩:=E.s9
 exact⟨A1,_,c1,A3,_,c3,A6,n6,c6,A9,n9,c9,e1,e3,e6,e9,h6,h9⟩
def WW(b:Nat)(M:Nat→Nat→Prop)(w:World)(N:Nat)(E:Value):Prop:=∃x0 v1 x2 v3 x4 x5 v6 x7 x8 v9 x10 y0 u1 y2 u3 y4 y5 u6 y7 y8 u9 oH s t,E= .agg (wC x0 v1 x2 v3 x4 x5 v6 x7 x8 v9 x10 y0 u1 y2 u3 y4 y5 u6 y7 y8 u9 oH s t).toArray∧ED b M w N v1 v3 x5 v6 v9∧ED b M w N u1 u3 y5 u6 u9∧s.size≤900∧t.size≤900
theorem WW.out{b N:Nat}{M:Nat→Nat→Prop}{w:World}{E:Value}(h:WW b M w N E):∃x0 v1 x2 v3 x4 x5 v6 x7 x8 v9 x10 y0 u1 y2 u3 y4 y5 u6 y7 y8 u9 oH s t,E= .agg (wC x0 v1 x2 v3 x4 x5 v6 x7 x8 v9 x10 y0 u1 y2 u3 y4 y5 u6 y7 y8 u9 oH s t).toArray∧ED b M w N v1 v3 x5 v6 v9∧ED b M w N u1 u3 y5 u6 u9∧s.size≤900∧t.size≤900:=h
def DV(b:Nat)(M:Nat→Nat→Prop)(w:World)(N:Nat)(E:Value):Prop:=∃x0 v1 x2 v3 x4 x5 v6 x7 x8 v9 x10,E= .agg (eC x0 v1 x2 v3 x4 x5 v6 x7 x8 v9 x10).toArray∧ED b M w N v1 v3 x5 v6 v9
theorem DV.out{b N:Nat}{M:Nat→Nat→Prop}{w:World}{E:Value}(h:DV b M w N E):∃x0 v1 x2 v3 x4 x5 v6 x7 x8 v9 x10,E= .agg (eC x0 v1 x2 v3 x4 x5 v6 x7 x8 v9 x10).toArray∧ED b M w N v1 v3 x5 v6 v9:=h
section
variable {b N g K:Nat} {l:List Int} {wr w w':World} {M:Nat→Nat→Prop} {n:Int} {e:Ending}
def SA(b:Nat)(wr:World)(g:Nat)(l:List Int)(n:Int)(M:Nat→Nat→Prop)(w:World)(K:Nat):Ending→World→Prop:=fun e w'=>∃E' M' v' x',e= .returned E'∧RT b wr g l n M w M' w' v' x'∧WW b M' w' K E'
theorem SA.out(h:SA b wr g l n M w K e w'):∃E' M' v' x',e= .returned E'∧RT b wr g l n M w M' w' v' x'∧WW b M' w' K E':=h
def adJ(b:Nat)(wr:World)(g:Nat)(l:List Int)(n:Int)(M:Nat→Nat→Prop)(w:World)(K:Nat):Ending→World→Prop:=fun e w'=>∃E' s M' v' x',e= .returned (.tuple #[E',.string s])∧RT b wr g l n M w M' w' v' x'∧DV b M' w' K E'∧s.size≤900
theorem adJ.out(h:adJ b wr g l n M w K e w'):∃E' s M' v' x',e= .returned (.tuple #[E',.string s])∧RT b wr g l n M w M' w' v' x'∧DV b M' w' K E'∧s.size≤900:=h
end
section
variable {b g:Nat} {l:List Int} {wr w:World} {v:Value} {x:Int}
theorem SB(hb0:b≤w.heap.size)(hR:RB b wr g l)(hB:Below wr.heap.size wr w)(hg:w.heap[g]?=some (.cells (rC v x).toArray 75 (0,0)))(hv:RV wr l v)(h0:0≤x)(h1:x≤1000000):
 Calls Tryz.prog 48 #[.pointer (some ⟨g,0,none⟩)] w fun e w'=>∃A n c m v' x',e= .returned (.agg (tC (.slice A n c) m).toArray)∧TD b w' (.slice A n c)∧RQ wr g l (x+1000) w w' v' x':=by
 obtain⟨⟨r,m,x'⟩,⟨hd,hl,_,_,hx0,hx1⟩,k,hk⟩:=PO l x hR.by8 hR.len h0 (by omega)
 refine(bD.calls k g l x r m x' wr w (hR.is hg hv) hB (hk k (Nat.le_refl _))).mono ?_
 rintro e w' ⟨u,rfl,hr,hI,hB',hk'⟩
 obtain⟨v',hq⟩:=RB.quiet hB hI hB' hk' (N:=x+1000) (by dsimp only at hx0;omega) hx1
 obtain⟨A,c,rfl⟩:=Kd.R_slice hr
 exact⟨A,_,c,m,v',x',rfl,⟨r,FR.of hr hb0,hd,hl⟩,hq⟩
end
theorem aa9(B:Nat)(hB:B≤1000000)(n:Nat)(hn:n≤100000):∀(s o:ByteArray),o.size+s.size*n≤B→s.size≤B→EvQ (fun k=>dG.l0 k s (n:Int) o) (fun r=>r.size≤B):=by
 induction n using Nat.strongRecOn with
 |_ n ih=>
  intro s o ho hs
  refine EvQ.step (fun k=>by rw[dG.l0]) ?_
  rcases Nat.eq_zero_or_pos n with h0|h0
  ·subst h0
   exact EvQ.neg (by omega) (EvQ.now (by omega))
  ·have e:wrap64 (Int.tdiv (n:Int) 2)=((n/2:Nat):Int):=by
    have:Int.tdiv (n:Int) 2=((n/2:Nat):Int):=rfl
    rw[this,dL _ (by omega) (by omega)]
   have h1:s.size*1≤s.size*n:=Nat.mul_le_mul_left _ h0
   have h2:(s++s).size*(n/2)=s.size*(2*(n/2)):=by rw[aK,←Nat.two_mul,Nat.mul_comm 2 s.size,Nat.mul_assoc]
   rw[e]
   refine EvQ.pos (by omega) (EvQ.ite (fun h=>?_) (fun h=>?_))
   ·have h3:n=2*(n/2)+1:=by
     have:Int.tmod (n:Int) 2=((n%2:Nat):Int):=rfl
     omega
    have h4:s.size*n=s.size*(2*(n/2))+s.size:=by
     have:=congrArg (fun q=>s.size*q) h3
     simp only[Nat.mul_add,Nat.mul_one]at this
     exact this
    by_cases hz:n/2=0
    ·refine EvQ.pos (by omega) (EvQ.pos (by omega) ?_)
     rw[hz]
     refine EvQ.step (fun k=>by rw[dG.l0]) (EvQ.neg (by decide) (EvQ.now (by rw[aK];omega)))
    ·have h5:s.size*2≤s.size*(2*(n/2)):=Nat.mul_le_mul_left _ (by omega)
     refine EvQ.pos (by omega) (EvQ.pos (by omega) (ih (n/2) (by omega) (by omega) _ _ ?_ (by rw[aK];omega)))
     rw[aK];omega
   ·have h3:n=2*(n/2):=by
     have:Int.tmod (n:Int) 2=((n%2:Nat):Int):=rfl
     omega
    have h4:s.size*n=s.size*(2*(n/2)):=congrArg (fun q=>s.size*q) h3
    have h5:s.size*2≤s.size*(2*(n/2)):=Nat.mul_le_mul_left _ (by omega)
    exact EvQ.pos (by omega) (ih (n/2) (by omega) (by omega) _ _ (by omega) (by rw[aK];omega))
theorem aac{w:World}(s:ByteArray)(n:Int)(hs:s.size=1)(h0:0≤n)(h1:n≤250):Calls Tryz.prog 47 #[.string s,.int .i64 n] w fun e w'=>∃r,e= .returned (.string r)∧(r.size:Int)≤n+1∧Below w.heap.size w w':=by
 obtain⟨m,rfl⟩:=Int.eq_ofNat_of_zero_le h0
 obtain⟨r,hr,k,hk⟩:=aa9 (m+1) (by omega) m (by omega) s (⟨#[]⟩:ByteArray) (by rw[hs,lY];omega) (by omega)
 refine(dG.calls k s (m:Int) r w (by unfold dG.f;exact hk k (Nat.le_refl _))).mono ?_
 rintro e w' ⟨rfl,hd⟩
 obtain⟨j,rfl⟩:=hd.out
 exact⟨r,rfl,by omega,dY (Below.refl _ _) j⟩
section
variable {P:Program} {ops:Array Oper} {a:Act} {Q:Exit→Act→World→Prop} {W:World} {b:Nat} {X:Nat→Prop} {M0 M:Nat→Nat→Prop} {w0:World} {L:List nC} {G:nD}
theorem BX.dl(h:BX L W):BX L.dropLast W:=fun x hx=>h x (List.dropLast_subset L hx)
theorem a2w{id:Nat}(HW:ah (LW b X M0 w0 L G M W))(R:World→Prop)(ds:List Nat)(n:Nat)(hR:R W.drew)
 (h:∀w',ah (LW b X M0 w0 L G M w')→(BX L.dropLast w'∧R w')→bJ P .any ops Q (fun W=>BX L.dropLast W∧R W) ds n (Array.replicate n false) a w')
 (hm:P.follows .mixedOrders =true:=by kernel_rfl)(hn:ops.size=n:=by rfl):(Code.region id ops true).wp P Q a W:=
 uG (ds:=ds) _ hm hn rfl ⟨HW.out.drew.bxs.dl,hR⟩ (fun hS=>h _ ⟨HW.out.drew⟩ hS)
end
theorem BX.nil(W:World):BX [] W:=fun _ h=>by cases h
theorem BX.cons{L:List nC}{W:World}{g T:Nat}{cs:List Value}(h:W.heap[g]?=some (.cells cs.toArray T (0,0)))(k:BX L W):BX (⟨g,cs,T⟩::L) W:=fun x hx=>by
 rcases List.mem_cons.1 hx with rfl|hx
 ·exact h
 ·exact k x hx
theorem Ws{P:Program}{ops:Array Oper}{a:Act}{Q:Exit→Act→World→Prop}{W:World}{b:Nat}{X:Nat→Prop}{M0 M:Nat→Nat→Prop}{w0:World}{L:List nC}{G:nD}{id:Nat}(HW:ah (LW b X M0 w0 L G M W))(L':List nC)(hL:∀w',LW b X M0 w0 L G M w'→BX L' w')(R:World→Prop)(ds:List Nat)(n:Nat)(hR:R W.drew)
 (h:∀w',ah (LW b X M0 w0 L G M w')→(BX L' w'∧R w')→bJ P .any ops Q (fun W=>BX L' W∧R W) ds n (Array.replicate n false) a w')
 (hm:P.follows .mixedOrders =true:=by kernel_rfl)(hn:ops.size=n:=by rfl):(Code.region id ops true).wp P Q a W:=
 uG (ds:=ds) _ hm hn rfl ⟨hL _ HW.out.drew,hR⟩ (fun hS=>h _ ⟨HW.out.drew⟩ hS)
theorem LW.ed{W:World}{b:Nat}{X:Nat→Prop}{M0 M:Nat→Nat→Prop}{w0:World}{L:List nC}{G:nD}{N:Nat}{v1 v3 v6 v9:Value}{x5:ByteArray}(h:LW b X M0 w0 L G M W)(k:ED b M W N v1 v3 x5 v6 v9):LW b X M0 w0 L (fun M w=>G M w∧EDF b N v1 v3 x5 v6 v9 M w) M W:=h.fact k (Mon.ed _ _ _ _ _ _)
theorem LW.td{W:World}{b:Nat}{X:Nat→Prop}{M0 M:Nat→Nat→Prop}{w0:World}{L:List nC}{G:nD}{v:Value}(h:LW b X M0 w0 L G M W)(k:TD b W v):LW b X M0 w0 L (fun M w=>G M w∧TDF b v M w) M W:=h.fact k (Mon.td _)
section
variable {b g:Nat} {l:List Int} {wr w:World} {v:Value} {x:Int}
theorem aad{A:Option Addr}{c:Nat}{l:List Int}(hl:Bytes l)(hB:Below wr.heap.size wr w)(hr:Kd.C (Kd.int .u8) wr A l.length l)(hc:l.length≤c):
 Calls Tryz.prog 20 #[.slice A l.length c] w fun e w'=>∃g v l',e= .returned (.pointer (some ⟨g,0,none⟩))∧w'.heap[g]?=some (.cells (rC v 0).toArray 75 (0,0))∧RV wr l' v∧wr.heap.size≤g∧Bytes l'∧l'.length≤2000∧Below w.heap.size w w':=by
 obtain⟨⟨r1,r2⟩,⟨hb1,hl1,rfl⟩,k,hk⟩:=a9Z l hl
 refine(pQ.calls A c l r1 0 wr w hB hr hc (hk k (Nat.le_refl _))).mono ?_
 rintro e w' ⟨g,rfl,⟨A0,c0,h1,h2,h3⟩,_,hb⟩
 exact⟨g,_,r1,rfl,h1,⟨A0,c0,rfl,h3⟩,h2,hb1,hl1,hb⟩
end
section
variable {b g:Nat} {l:List Int} {wr w W W':World} {M0 M:Nat→Nat→Prop} {X:Nat→Prop} {L:List nC} {G:nD} {cs:List Value}
theorem LW.pushR(h:LW b X M0 w L G M W)(hb:Below W.heap.size W W')(e:W'.heap[g]?=some (.cells cs.toArray 75 (0,0)))(hL:∀x∈L,x.T≠75)(hM:∀n,¬M g n)(hg:w.heap.size≤g):LW b X M0 w (⟨g,cs,75⟩::L) G M W':=by
 have hq:=h.quiet hb
 refine⟨hq.ts,?_,fun x hx=>?_,hq.g,h.gm⟩
 ·rw[List.map_cons,List.nodup_cons]
  refine⟨fun hm=>?_,h.nd⟩
  obtain⟨x,hx,ex⟩:=List.mem_map.1 hm
  have h1:=(hq.bx x hx).1
  simp only at ex
  rw[ex,e]at h1
  injection h1 with h1
  injection h1 with _ h1
  exact hL x hx h1.symm
 ·rcases List.mem_cons.1 hx with rfl|hx
  ·exact⟨e,(by decide:(75:Nat)≠89),hM,.inr hg⟩
  ·exact hq.bx x hx
theorem LW.underN(h:LW b NX M0 w L G M W)(hb:b=wr.heap.size)(hB:Below wr.heap.size wr w)(hM:TW b M0 w):Below wr.heap.size wr W:=h.ts.under hb hB hM (fun _ e=>e.elim)
end
def aae(w:World)(v:Value)(N:Nat):Prop:=∃A c,∃l:List uF,v= .slice A l.length c∧l.length≤c∧l.length≤N∧Kd.C k39 w A l.length l∧(∀x∈l,SOk x)∧(0<l.length→∃k,A=some ⟨k,0,none⟩)
def aEV(w:World)(v:Value)(N:Nat):Prop:=∃A c,∃l:List jS,v= .slice A l.length c∧l.length≤c∧l.length≤N∧Kd.C R4 w A l.length l∧(∀x∈l,x.f3.size≤255)∧(0<l.length→∃k,A=some ⟨k,0,none⟩)
structure DR(b:Nat)(w:World)(N:Nat)(v1 v3:Value)(x5:ByteArray)(v6 v9:Value):Prop where
 t1:TD b w v1
 t3:TD b w v3
 c5:x5.size≤700
 s6:aae w v6 N
 s9:aEV w v9 N
theorem ED.dr{b N:Nat}{M:Nat→Nat→Prop}{w:World}{v1 v3 v6 v9:Value}{x5:ByteArray}(h:ED b M w N v1 v3 x5 v6 v9)(hw:TW b M w):DR b w N v1 v3 x5 v6 v9:=by
 obtain⟨t1,t3,c5,s6,s9⟩:=h
 refine⟨t1,t3,c5,?_,?_⟩
 ·obtain⟨A,n,c,rfl,hn,_⟩:=id s6
  obtain⟨l,rfl,hc,hC,ho⟩:=s6.reads39 hw
  exact⟨A,c,l,rfl,hc,hn,hC,ho,fun h=>by obtain⟨k,e,_⟩:=s6.has h;exact⟨k,e⟩⟩
 ·obtain⟨A,n,c,rfl,hn,_⟩:=id s9
  obtain⟨l,rfl,hc,hC,ho⟩:=s9.reads42 hw
  exact⟨A,c,l,rfl,hc,hn,hC,fun x hx=>(ho x hx).2,fun h=>by obtain⟨k,e,_⟩:=s9.has h;exact⟨k,e⟩⟩
def a2x(w:World)(N:Nat):Ending→World→Prop:=fun e w'=>∃x0 v1 x2 v3 x4 x5 v6 x7 x8 v9 x10,e= .returned (.agg (eC x0 v1 x2 v3 x4 x5 v6 x7 x8 v9 x10).toArray)∧DR w.heap.size w' N v1 v3 x5 v6 v9∧Below w.heap.size w w'
abbrev rE:Nat→Nat→Prop:=fun _ _=>False
theorem aae.mono{w:World}{v:Value}{N N':Nat}(h:aae w v N)(hN:N≤N'):aae w v N':=by
 obtain⟨A,c,l,e,h1,h2,h3⟩:=h
 exact⟨A,c,l,e,h1,Nat.le_trans h2 hN,h3⟩
abbrev oC(x y:Int):List Value:=[.int .i64 x,.int .i64 y]
structure I6(W:World)(v1:Value)(l1:List bf)(v3:Value)(l3:List bf)(v6:Value)(l6:List uF)(v9:Value)(l9:List jS):Prop where
 r1:∃A c,v1= .slice A l1.length c∧l1.length≤c∧Kd.C iH W A l1.length l1
 r3:∃A c,v3= .slice A l3.length c∧l3.length≤c∧Kd.C iH W A l3.length l3
 r6:∃A c,v6= .slice A l6.length c∧l6.length≤c∧Kd.C k39 W A l6.length l6∧(0<l6.length→∃k,A=some ⟨k,0,none⟩)
 r9:∃A c,v9= .slice A l9.length c∧l9.length≤c∧Kd.C R4 W A l9.length l9∧(0<l9.length→∃k,A=some ⟨k,0,none⟩)
section
variable {W W':World} {v1 v3 v6 v9:Value} {l1 l3:List bf} {l6:List uF} {l9:List jS}
theorem I6.below(h:I6 W v1 l1 v3 l3 v6 l6 v9 l9)(hb:Below W.heap.size W W'):I6 W' v1 l1 v3 l3 v6 l6 v9 l9:=by
 obtain⟨⟨A1,c1,e1,h1,C1⟩,⟨A3,c3,e3,h3,C3⟩,⟨A6,c6,e6,h6,C6,k6⟩,⟨A9,c9,e9,h9,C9,k9⟩⟩:=h
 exact⟨⟨A1,c1,e1,h1,Kd.C_below C1 hb⟩,⟨A3,c3,e3,h3,Kd.C_below C3 hb⟩,⟨A6,c6,e6,h6,Kd.C_below C6 hb,k6⟩,⟨A9,c9,e9,h9,Kd.C_below C9 hb,k9⟩⟩
theorem Qa{ad:Addr}{k m i:Nat}{cs:List Value}(e:(⟨k,0,none⟩:Addr)=ad)(h:∀q u,cs[q]?=some u→W.cell? (ad.add (i*m+q))=some u):W.rangeAt k (i*m) cs:=fun q u hq=>by
 have:=h q u hq
 rwa[←e,Addr.add_mid,Nat.zero_add]at this
theorem I6.el39{k n c:Nat}(h:I6 W v1 l1 v3 l3 (.slice (some ⟨k,0,none⟩) n c) l6 v9 l9){i:Int}(h0:0≤i)(h1:i<(l6.length:Int)):∃p A2 d2 A7 d7,fV l6 i=p∧p∈l6∧W.rangeAt k (i.toNat*12) (sC p.f0 p.f1 (.slice A2 p.f2.length d2) p.f3 p.f4 p.f5 p.f6 (.slice A7 p.f7.length d7) p.f8 p.f9 p.f10.f0 p.f10.f1)∧p.f2.length≤d2∧iH.C W A2 p.f2.length p.f2∧p.f7.length≤d7∧iH.C W A7 p.f7.length p.f7:=by
 obtain⟨A,c',e,hc,C6,_⟩:=h.r6
 injection e with e1 e2 e3
 subst e1
 obtain⟨ad,ea,hq⟩:=C6.2.2 (by omega)
 obtain⟨j,rfl⟩:=Int.eq_ofNat_of_zero_le h0
 have hj:j<l6.length:=by omega
 obtain⟨cs,hl,hK,hcl⟩:=hq j l6[j] (List.getElem?_eq_getElem hj)
 obtain⟨A2,d2,A7,d7,rfl,q2,C2,q7,C7⟩:=MV hK
 refine⟨_,A2,d2,A7,d7,aa5 l6 j hj,List.getElem_mem hj,?_,q2,C2,q7,C7⟩
 rw[Int.toNat_natCast]
 exact Qa (Option.some.inj ea) hcl
theorem I6.el42{k n c:Nat}(h:I6 W v1 l1 v3 l3 v6 l6 (.slice (some ⟨k,0,none⟩) n c) l9){i:Int}(h0:0≤i)(h1:i<(l9.length:Int)):∃p,fZ l9 i=p∧p∈l9∧W.rangeAt k (i.toNat*4) (fC p.f0 p.f1 p.f2 p.f3):=by
 obtain⟨A,c',e,hc,C9,_⟩:=h.r9
 injection e with e1 e2 e3
 subst e1
 obtain⟨ad,ea,hq⟩:=C9.2.2 (by omega)
 obtain⟨j,rfl⟩:=Int.eq_ofNat_of_zero_le h0
 have hj:j<l9.length:=by omega
 obtain⟨cs,hl,hK,hcl⟩:=hq j l9[j] (List.getElem?_eq_getElem hj)
 obtain rfl:=FM hK
 refine⟨_,Wn l9 j hj,List.getElem_mem hj,?_⟩
 rw[Int.toNat_natCast]
 exact Qa (Option.some.inj ea) hcl
theorem xX{p:uF}{A2 A7:Option Addr}{d2 d7:Nat}{t:Bool}(q2:p.f2.length≤d2)(C2:iH.C W A2 p.f2.length p.f2)(q7:p.f7.length≤d7)(C7:iH.C W A7 p.f7.length p.f7)(hs:SmS p)(ht:(uq p.f0&&lD p)=t):
 Calls Tryz.prog 28 #[.agg (sC p.f0 p.f1 (.slice A2 p.f2.length d2) p.f3 p.f4 p.f5 p.f6 (.slice A7 p.f7.length d7) p.f8 p.f9 p.f10.f0 p.f10.f1).toArray] W fun e w'=>e= .returned (.bool t)∧Below W.heap.size W w':=by
 subst ht
 obtain⟨k,hk⟩:=Sn p hs
 exact iP.calls k p.f0 p.f1 A2 d2 p.f2 p.f3 p.f4 p.f5 p.f6 A7 d7 p.f7 p.f8 p.f9 p.f10.f0 p.f10.f1 _ W C2 q2 C7 q7 (hk k (Nat.le_refl _))
theorem F6{p:uF}{A2 A7:Option Addr}{d2 d7:Nat}{t:Bool}(q2:p.f2.length≤d2)(C2:iH.C W A2 p.f2.length p.f2)(q7:p.f7.length≤d7)(C7:iH.C W A7 p.f7.length p.f7)(hs:SmS p)(ht:lD p=t):
 Calls Tryz.prog 36 #[.agg (sC p.f0 p.f1 (.slice A2 p.f2.length d2) p.f3 p.f4 p.f5 p.f6 (.slice A7 p.f7.length d7) p.f8 p.f9 p.f10.f0 p.f10.f1).toArray] W fun e w'=>e= .returned (.bool t)∧Below W.heap.size W w':=by
 subst ht
 obtain⟨k,hk⟩:=Yf p hs
 exact jr.calls k p.f0 p.f1 A2 d2 p.f2 p.f3 p.f4 p.f5 p.f6 A7 d7 p.f7 p.f8 p.f9 p.f10.f0 p.f10.f1 _ W C2 q2 C7 q7 (hk k (Nat.le_refl _))
theorem aaf{p:jS}{t:Bool}(ht:iR p=t):Calls Tryz.prog 29 #[.agg (fC p.f0 p.f1 p.f2 p.f3).toArray] W fun e w'=>e= .returned (.bool t)∧Below W.heap.size W w':=by
 subst ht
 obtain⟨k,hk⟩:=Jd p
 exact di.calls k p.f0 p.f1 p.f2 p.f3 _ W (hk k (Nat.le_refl _))
theorem qx{x:Int}{t:Bool}(h:∃A c,v1= .slice A l1.length c∧l1.length≤c∧Kd.C iH W A l1.length l1)(hs:Small l1)(ht:eO l1 x=t):Calls Tryz.prog 30 #[.agg (tC v1 x).toArray] W fun e w'=>e= .returned (.bool t)∧Below W.heap.size W w':=by
 subst ht
 obtain⟨A,c,rfl,hc,C⟩:=h
 obtain⟨k,hk⟩:=Ec l1 x hs
 exact bQ.calls k A c l1 x _ W C hc (hk k (Nat.le_refl _))
theorem Bt{x:Int}{t:Bool}(h:∃A c,v1= .slice A l1.length c∧l1.length≤c∧Kd.C iH W A l1.length l1)(hs:Small l1)(ht:eO l1 x=t):Calls Tryz.prog 40 #[.agg (tC v1 x).toArray] W fun e w'=>e= .returned (.bool t)∧Below W.heap.size W w':=by
 subst ht
 obtain⟨A,c,rfl,hc,C⟩:=h
 obtain⟨k,hk⟩:=Ed l1 x hs
 exact eu.calls k A c l1 x _ W C hc (hk k (Nat.le_refl _))
theorem GI{s r:Int}{t:Bool}(ht:qc s r=t):Calls Tryz.prog 31 #[.agg (oC s r).toArray] W fun e w'=>e= .returned (.bool t)∧Below W.heap.size W w':=by
 subst ht
 exact kR.calls s r _ W (Q0 s r)
theorem a2y{s r:Int}{t:Bool}(ht:qc s r=t):Calls Tryz.prog 41 #[.agg (oC s r).toArray] W fun e w'=>e= .returned (.bool t)∧Below W.heap.size W w':=by
 subst ht
 exact kS.calls s r _ W (Wm s r)
end
def LI(ans:Bool)(l:List uF)(R E:Bool)(i:Int):Prop:=E=(Gz ans l (l.length-i.toNat) i.toNat&&R)
section
variable {ans R E:Bool} {l:List uF} {i:Int} {x y:uF}
theorem LI.step(h:LI ans l R E i)(h0:0≤i)(h1:i<(l.length:Int))(hx:fV l i=x):E=(Gy ans l i.toNat&&(Gz ans l (l.length-(i+1).toNat) (i+1).toNat&&R)):=by
 unfold LI at h
 rw[h,show l.length-i.toNat=(l.length-(i+1).toNat)+1 by omega]
 show((Gy ans l i.toNat&&Gz ans l (l.length-(i+1).toNat) (i.toNat+1))&&R)=_
 rw[Bool.and_assoc,show i.toNat+1=(i+1).toNat by omega]
theorem step_eq(h0:0≤i)(hx:fV l i=x):Gy ans l i.toNat=(uq x.f0&&((decide (i=0)||decide ((fV l (i-1)).f0<x.f0))&&((ans||decide (x.f0=2*i+1))&&lD x))):=by
 unfold Gy
 have e:((i.toNat:Nat):Int)=i:=by omega
 rw[e,hx]
 have:decide (i.toNat=0)=decide (i=0):=by
  by_cases h:i=0
  ·subst h;rfl
  ·rw[decide_eq_false h,decide_eq_false (by omega)]
 rw[this]
theorem LI.no(h:LI ans l R E i)(h0:0≤i)(h1:i<(l.length:Int))(hx:fV l i=x)(hn:(uq x.f0&&lD x)=false∨(0<i∧¬(fV l (i-1)).f0<x.f0)∨(ans=false∧x.f0≠2*i+1)):E=false:=by
 rw[h.step h0 h1 hx,step_eq h0 hx]
 rcases hn with hn|⟨a,b⟩|⟨a,b⟩
 ·cases hi:uq x.f0
  ·simp
  ·rw[hi,Bool.true_and]at hn;simp[hn]
 ·rw[decide_eq_false b,decide_eq_false (by omega)];simp
 ·rw[a,decide_eq_false b];simp
theorem LI.yes(h:LI ans l R E i)(h0:0≤i)(h1:i<(l.length:Int))(hx:fV l i=x)(ht:(uq x.f0&&lD x)=true)(hy:i≤0∨(fV l (i-1)).f0<x.f0)(ha:ans=true∨x.f0=2*i+1):LI ans l R E (i+1):=by
 unfold LI
 rw[h.step h0 h1 hx,step_eq h0 hx]
 rw[Bool.and_eq_true]at ht
 rw[ht.1,ht.2]
 have h2:(decide (i=0)||decide ((fV l (i-1)).f0<x.f0))=true:=by
  rcases hy with hy|hy
  ·rw[decide_eq_true (by omega)];rfl
  ·rw[decide_eq_true hy,Bool.or_true]
 have h3:(ans||decide (x.f0=2*i+1))=true:=by
  rcases ha with ha|ha
  ·rw[ha];rfl
  ·rw[decide_eq_true ha,Bool.or_true]
 rw[h2,h3]
 simp
theorem LI.done(h:LI ans l R E i)(h1:¬i<(l.length:Int)):E=R:=by
 unfold LI at h
 rw[h,show l.length-i.toNat=0 by omega]
 rfl
end
def FI(l:List jS)(R E:Bool)(i:Int):Prop:=E=((l.drop i.toNat).all iR&&R)
section
variable {R E:Bool} {l:List jS} {i:Int} {x:jS}
theorem FI.step(h:FI l R E i)(h0:0≤i)(h1:i<(l.length:Int))(hx:fZ l i=x):E=(iR x&&((l.drop (i+1).toNat).all iR&&R)):=by
 unfold FI at h
 obtain⟨j,rfl⟩:=Int.eq_ofNat_of_zero_le h0
 have hj:j<l.length:=by omega
 rw[Wn l j hj]at hx
 rw[h,Int.toNat_natCast,List.drop_eq_getElem_cons hj,List.all_cons,hx,Bool.and_assoc,show((j:Int)+1).toNat=j+1 by omega]
theorem FI.no(h:FI l R E i)(h0:0≤i)(h1:i<(l.length:Int))(hx:fZ l i=x)(hn:iR x=false):E=false:=by rw[h.step h0 h1 hx,hn];rfl
theorem FI.yes(h:FI l R E i)(h0:0≤i)(h1:i<(l.length:Int))(hx:fZ l i=x)(hn:iR x=true):FI l R E (i+1):=by unfold FI;rw[h.step h0 h1 hx,hn];rfl
theorem FI.done(h:FI l R E i)(h1:¬i<(l.length:Int)):E=R:=by
 unfold FI at h
 rw[h,List.drop_eq_nil_of_le (by omega)]
 rfl
end
theorem FI.start{l1 l3:List bf}{x2 x4 x7 x8:Int}{x5:ByteArray}{l9:List jS}{r t1 t3 f:Bool}(h:r=wP l1 x2 l3 x4 x5 x7 x8 l9)(h1:eO l1 x2=t1)(h3:eO l3 x4=t3)(hf:qc x7 x8=f):FI l9 (decide ((l9.length:Int)≤60)&&(decide ((x5.size:Int)≤600)&&(t1&&(t3&&f)))) r 0:=by
 unfold FI
 rw[h,←h1,←h3,←hf]
 unfold wP
 show _=((l9.drop 0).all iR&&_)
 rw[List.drop_zero]
 cases decide ((l9.length:Int)≤60)<;>cases l9.all iR<;>rfl
theorem wQ{W:World}{x:Int}{t:Bool}(ht:uq x=t):Calls Tryz.prog 35 #[.int .i64 x] W fun e w'=>e= .returned (.bool t)∧Below W.heap.size W w':=by
 subst ht
 refine(gB.calls x _ W (DI x)).mono ?_
 rintro e w' ⟨rfl,hd⟩
 obtain⟨k,rfl⟩:=hd.out
 exact⟨rfl,dY (Below.refl _ _) k⟩
theorem Bu{W:World}{v9:Value}{l9:List jS}{t:Bool}(h:∃A c,v9= .slice A l9.length c∧l9.length≤c∧Kd.C R4 W A l9.length l9∧(0<l9.length→∃k,A=some ⟨k,0,none⟩))(hl:l9.length≤1000000000)(ht:l9.all iR=t):Calls Tryz.prog 37 #[v9,.func (.func 38) #[] #[]] W fun e w'=>e= .returned (.bool (!t))∧Below W.heap.size W w':=by
 subst ht
 obtain⟨A,c,rfl,hc,C,_⟩:=h
 have hq:=Bo 38 (fun x=> !iR x) l9 (by unfold aG.known;simp) hl (fun x hx=>by
  unfold aG.p
  exact Ev.eq (by rw[if_pos rfl];exact Sm x))
 rw[Bp iR]at hq
 obtain⟨k,hk⟩:=hq
 exact aG.calls k A c l9 38 _ W C hc (hk k (Nat.le_refl _))
theorem aag{l1 l3:List bf}{x2 x4 x7 x8:Int}{x5:ByteArray}{l9:List jS}{r t1 t3 f a:Bool}(h:r=wP l1 x2 l3 x4 x5 x7 x8 l9)(h1:eO l1 x2=t1)(h3:eO l3 x4=t3)(hf:qc x7 x8=f)(ha:l9.all iR=a):r=(decide ((l9.length:Int)≤60)&&(a&&(decide ((x5.size:Int)≤600)&&(t1&&(t3&&f))))):=by
 rw[h,←h1,←h3,←hf,←ha];rfl
def Out(T m:Nat)(v:Value)(es:List (List Value))(R:List nC):Prop:=(∀e∈es,e.length=m)∧((v= .slice none 0 0∧es=[]∧R=[])∨∃k z c,v= .slice (some ⟨k,0,none⟩) es.length c∧es.length≤c∧c≤maxLen∧z.length=(c-es.length)*m∧R=[⟨k,es.flatten++z,T⟩])
theorem Qb{m:Nat}:∀{es:List (List Value)},(∀e∈es,e.length=m)→es.flatten.length=es.length*m
 |[],_=>by simp
 |e::es,h=>by
  rw[List.flatten_cons,List.length_append,h e List.mem_cons_self,Qb (fun x hx=>h x (List.mem_cons_of_mem _ hx)),List.length_cons,Nat.add_mul,Nat.one_mul,Nat.add_comm]
theorem flat_get{m:Nat}:∀{es:List (List Value)}{i:Nat}{e:List Value},(∀e∈es,e.length=m)→es[i]?=some e→(es.flatten.drop (i*m)).take m=e
 |[],i,e,_,h=>by simp at h
 |x::es,0,e,hm,h=>by
  obtain rfl:x=e:=by simpa using h
  rw[Nat.zero_mul,List.drop_zero,List.flatten_cons]
  exact List.take_left' (hm x List.mem_cons_self)
 |x::es,i+1,e,hm,h=>by
  rw[List.getElem?_cons_succ]at h
  have hx:=hm x List.mem_cons_self
  rw[List.flatten_cons,Nat.add_mul,Nat.one_mul,Nat.add_comm,←hx,←List.drop_drop,List.drop_left,hx]
  exact flat_get (fun y hy=>hm y (List.mem_cons_of_mem _ hy)) h
theorem Out.len{T m:Nat}{v:Value}{es:List (List Value)}{R:List nC}(h:Out T m v es R):∃A c,v= .slice A es.length c∧es.length≤c:=by
 rcases h.2 with⟨rfl,rfl,_⟩|⟨k,z,c,rfl,hc,_⟩
 ·exact⟨none,0,rfl,Nat.le_refl _⟩
 ·exact⟨_,c,rfl,hc⟩
theorem Out.one{T m:Nat}{v:Value}{es:List (List Value)}{R:List nC}(h:Out T m v es R):v.oneCell'=true:=by obtain⟨A,c,rfl,_⟩:=h.len;rfl
theorem Out.nil(T m:Nat):Out T m (.slice none 0 0) [] []:=⟨(fun _ h=>by cases h),.inl ⟨rfl,rfl,rfl⟩⟩
theorem Out.lit{T m n:Nat}(g:Nat)(es:List (List Value))(cs:List Value)(hm:∀e∈es,e.length=m)(hn:es.length=n)(hc:es.flatten=cs)(h:n≤1000000):Out T m (.slice (some ⟨g,0,none⟩) n n) es [⟨g,cs,T⟩]:=⟨hm,.inr ⟨g,[],n,by rw[hn],by omega,by simp only[maxLen];omega,by simp[hn],by rw[hc,List.append_nil]⟩⟩
theorem Out.get{T m i k n c:Nat}{es:List (List Value)}{R:List nC}{W:World}{e:List Value}(h:Out T m (.slice (some ⟨k,0,none⟩) n c) es R)(hB:BX R W)(he:es[i]?=some e):W.rangeAt k (i*m) e:=by
 obtain⟨hm,⟨h0,_⟩|⟨k2,z,c2,e1,_,_,_,rfl⟩⟩:=h
 ·cases h0
 ·injection e1 with e1 _ _
  injection e1 with e1
  injection e1 with e1 _ _
  subst e1
  intro q u hu
  rw[ak (hB.at 0 rfl)]
  have h2:=flat_get hm he
  rw[←h2,List.getElem?_take]at hu
  split at hu
  ·rw[List.getElem?_drop]at hu
   simp only[List.getElem?_toArray]
   rw[List.getElem?_append_left (List.getElem?_eq_some_iff.1 hu).1,hu]
  ·cases hu
theorem Out.some{T m i:Nat}{v:Value}{es:List (List Value)}{R:List nC}(h:Out T m v es R)(hi:i<es.length):∃k c,v= .slice (some ⟨k,0,none⟩) es.length c∧es.length≤c:=by
 obtain⟨hm,⟨_,rfl,_⟩|⟨k,z,c,rfl,hc,_⟩⟩:=h
 ·simp at hi
 ·exact⟨k,c,rfl,hc⟩
section
variable {P:Program} {ops:Array Oper} {o:Oper} {rest:List Oper} {a:Act} {Q:Exit→Act→World→Prop} {K:Act→World→Prop} {W w w':World} {b b2:Nat} {X:Nat→Prop} {M0 M:Nat→Nat→Prop} {w0:World} {L L' R:List nC} {G G2:nD}
theorem LW.sub(h:LW b X M0 w0 L G M W)(hs:L'.Sublist L):LW b X M0 w0 L' G M W:=⟨h.ts,(hs.map nC.g).nodup h.nd,fun x hx=>h.bx x (hs.subset hx),h.g,h.gm⟩
theorem LW.bk{x:nC}(h:LW b X M0 w0 (x::L) G M W):LW b X M0 w0 (L++[x]) G M W:=by
 refine⟨h.ts,?_,fun y hy=>h.bx y (by rcases List.mem_append.1 hy with h1|h1;exact List.mem_cons_of_mem _ h1;exact List.mem_cons.2 (.inl (List.mem_singleton.1 h1))),h.g,h.gm⟩
 have:=h.nd
 rw[List.map_cons,List.nodup_cons]at this
 rw[List.map_append,List.nodup_append]
 exact⟨this.2,by simp,fun a ha c hc=>by obtain rfl:c=x.g:=(by simpa using hc);exact fun e=>this.1 (e▸ha)⟩
theorem LW.join(h:LW b X M0 w0 L G M w)(k:LW b2 NX rE w R G2 rE w')(hb:Below w.heap.size w w'):LW b X M0 w0 (L++R) G M w':=by
 have hq:=h.quiet hb
 have hr:∀x∈R,w.heap.size≤x.g:=fun x hx=>(k.bx x hx).2.2.2.elim (fun h=>h.elim) id
 refine⟨hq.ts,?_,fun x hx=>?_,hq.g,h.gm⟩
 ·rw[List.map_append,List.nodup_append]
  refine⟨h.nd,k.nd,fun i hi j hj e=>?_⟩
  obtain⟨x,hx,rfl⟩:=List.mem_map.1 hi
  obtain⟨y,hy,rfl⟩:=List.mem_map.1 hj
  have h1:=gJ (h.bx x hx).1
  have h2:=hr y hy
  omega
 ·rcases List.mem_append.1 hx with hx|hx
  ·exact hq.bx x hx
  ·obtain⟨h1,h2,_,_⟩:=k.bx x hx
   have:=hr x hx
   exact⟨h1,h2,fun n hn=>by have:=h.ts.tw.lt hn;omega,.inr (Nat.le_trans h.ts.size this)⟩
theorem LW.quietly(k:LW b2 NX rE w R G2 rE w'):Below w.heap.size w w':=⟨k.ts.os.os,k.ts.os.tape,k.ts.os.output,k.ts.size,fun i hi=>k.ts.keep i hi (fun h=>h) (fun _ h=>h)⟩
theorem aah{s x:Operand}{t T m bytes c1:Nat}{v z:Value}{es:List (List Value)}{ce:List Value}{ad:Addr}(HW:ah (LW b X M0 w0 L G M W))(n:Nat)(hO:Out T m v es R)(hl:ce.length=m)(hnews:∀j u,ce[j]?=some u→W.cell? (ad.add j)=some u)(h1:∀u∈ce,u.oneCell'=true)(hN:es.length≤1000000)
 (hinfo:(P.info? T).map (fun i=>(i.zero,i.size,i.bytes))=some (some z,m,bytes))(hzs:z.cells.size=m)(hT:T≠89)(hbytes:1000001*bytes≤140737488355328)(ht:P.underlying t=some (.slice T))
 (h:∀v' R' w',ah (LW b X M0 w0 (L.take n++R') G M w')→Out T m v' (es++[ce]) R'→K (a.put o.dst v') w')
 (hR:L.drop n=R:=by rfl)(ho:o.op= .call {callee:=.builtin .append,args:=#[s,x],argTypes:=#[t,t]}:=by rfl)(hs:a.eval s=v:=by rfl)(hx:a.eval x= .slice (some ad) 1 c1:=by rfl):o.wp P a W K Q:=by
 cases hi:P.info? T with
 |none=>rw[hi]at hinfo;cases hinfo
 |some i0=>
  rw[hi]at hinfo
  simp only[Option.map_some,Option.some.injEq,Prod.mk.injEq]at hinfo
  obtain⟨hz,hsz,hby⟩:=hinfo
  have hL:L=L.take n++R:=by rw[←hR];exact(List.take_append_drop n L).symm
  obtain⟨hm,hcase⟩:=hO
  have hm2:∀e∈es++[ce],e.length=m:=fun e he=>by
   rcases List.mem_append.1 he with h|h
   ·exact hm e h
   ·rw[List.mem_singleton.1 h];exact hl
  have hfl:=Qb hm
  have hnb:(es.length+1)*i0.bytes≤140737488355328:=by rw[hby];exact Nat.le_trans (Nat.mul_le_mul_right _ (by omega)) hbytes
  have hmx:es.length+1≤maxLen:=by simp only[maxLen];omega
  have hlen:(es++[ce]).length=es.length+1:=by simp
  have hfe:(es++[ce]).flatten=es.flatten++ce:=by simp
  have hzc:∀q,(Builtin.zeroCells z.cells q).toList.length=q*m:=fun q=>by rw[Array.length_toList];simp[Builtin.zeroCells,hzs]
  unfold Oper.wp execOp
  simp only[ho,resolve,invoke,builtin,Sem.run_bind,Sem.run_pure,Result.andThen_ok,List.map_toArray,List.map_cons,List.map_nil,hs,hx]
  have grow:∀(cap:Nat),cap<es.length+1→K (a.put o.dst (.slice (some ⟨W.heap.size,0,none⟩) (es.length+1) (grownCap W (es.length+1) cap T))) (W.drew.alloc (.cells (es.flatten.toArray++ce.toArray++Builtin.zeroCells z.cells (grownCap W (es.length+1) cap T-(es.length+1))) T)):=by
   intro cap hcap
   have hge:=grownCap_ge W (es.length+1) cap T
   have hcm:=grownCap_le_maxLen W (es.length+1) cap T hmx
   have e0:(es.flatten.toArray++ce.toArray++Builtin.zeroCells z.cells (grownCap W (es.length+1) cap T-(es.length+1)))=(es.flatten++ce++(Builtin.zeroCells z.cells (grownCap W (es.length+1) cap T-(es.length+1))).toList).toArray:=by apply Array.ext';simp
   have hB:=Below.drew0 W (.cells (es.flatten.toArray++ce.toArray++Builtin.zeroCells z.cells (grownCap W (es.length+1) cap T-(es.length+1))) T)
   refine h _ [⟨W.heap.size,es.flatten++ce++(Builtin.zeroCells z.cells (grownCap W (es.length+1) cap T-(es.length+1))).toList,T⟩] _ ⟨((HW.out.sub (List.take_sublist n L)).push rfl (by rw[←e0];exact heap_alloc_new W.drew _) hB hT).bk⟩ ⟨hm2,.inr ⟨_,_,_,by rw[hlen],by rw[hlen];exact hge,hcm,by rw[hlen];exact hzc _,by rw[hfe]⟩⟩
  rcases hcase with⟨rfl,rfl,rfl⟩|⟨k,zz,cap,rfl,hc,hcm,hzl,rfl⟩
  ·have hr:=run_append_nil (P:=P) W t o.type T i0 z ht hi hz ad 1 c1 ce (by rw[hsz,hl,Nat.one_mul]) hnews (by omega) (by omega) (by have hb:=hnb;simp only[List.length_nil,Nat.zero_add,Nat.one_mul]at hb;omega)
   rw[hr]
   have hq:=grow 0 (by simp)
   simp only[List.length_nil,Nat.zero_add,List.flatten_nil]at hq
   rw[show(([]:List Value).toArray++ce.toArray)=ce.toArray from by simp]at hq
   exact hq
  ·have hk:W.heap[k]?=some (.cells (es.flatten++zz).toArray T (0,0)):=(HW.out.bx ⟨k,es.flatten++zz,T⟩ (by rw[hL];exact List.mem_append_right _ (List.mem_singleton.2 rfl))).1
   have hlo:es.flatten.length=es.length*i0.size:=by rw[hsz];exact hfl
   by_cases hroom:es.length+1≤cap
   ·have aSX:m≤zz.length:=by rw[hzl];exact Nat.le_trans (Nat.le_of_eq (Nat.one_mul m).symm) (Nat.mul_le_mul_right m (by omega))
    have hr:=run_append_room (P:=P) W t o.type T i0 ht hi k es.length cap (es.flatten++zz).toArray hk ad 1 c1 ce (by rw[hsz,hl,Nat.one_mul]) hnews h1 hroom (by rw[hsz,hl];show _≤(es.flatten++zz).length;rw[List.length_append,hfl];omega)
    rw[hr]
    have he:((es.flatten++zz).toArray.toList.take (es.length*i0.size)++ce++(es.flatten++zz).toArray.toList.drop (es.length*i0.size+ce.length))=es.flatten++ce++zz.drop m:=by
     rw[List.toList_toArray,←hlo,List.take_left,hl,List.drop_append]
     simp
    have hset:=setRow_heap W k (es.flatten++zz).toArray ((es.flatten++zz).toArray.toList.take (es.length*i0.size)++ce++(es.flatten++zz).toArray.toList.drop (es.length*i0.size+ce.length)).toArray T _ hk
    have hkb:ax W (W.setRow k ((es.flatten++zz).toArray.toList.take (es.length*i0.size)++ce++(es.flatten++zz).toArray.toList.drop (es.length*i0.size+ce.length)).toArray) k none:=⟨by simp,fun q hq hne _=>setRow_other W k q _ hne⟩
    rw[he]at hset hkb ⊢
    have hid:(L.take n).length=n:=by
     rw[List.length_take]
     have:=congrArg List.length hR
     rw[List.length_drop,List.length_singleton]at this
     omega
    have hLi:L[n]?=some ⟨k,es.flatten++zz,T⟩:=by rw[hL,List.getElem?_append_right (by omega),hid,Nat.sub_self];rfl
    have hLs:L.set n ⟨k,es.flatten++ce++zz.drop m,T⟩=L.take n++[⟨k,es.flatten++ce++zz.drop m,T⟩]:=by
     conv=>lhs;rw[hL]
     rw[List.set_append_right _ _ (by omega),hid,Nat.sub_self]
     rfl
    refine h _ [⟨k,es.flatten++ce++zz.drop m,T⟩] _ ⟨hLs▸HW.out.upd n hLi hset hkb ⟨rfl,rfl,rfl,hkb.1,fun _ h=>absurd h (Nat.not_lt_zero _)⟩⟩ ⟨hm2,.inr ⟨k,zz.drop m,cap,by rw[hlen],by rw[hlen];exact hroom,hcm,by rw[List.length_drop,hzl,hlen,Nat.sub_add_eq,Nat.sub_mul (cap-es.length) 1 m,Nat.one_mul],by rw[hfe]⟩⟩
   ·have hr:=run_append_grow (P:=P) W t o.type T i0 z ht hi hz ⟨k,0,none⟩ es.length cap es.flatten hlo (fun j u hu=>by rw[Addr.add_mid,ak hk];simp only[List.getElem?_toArray,Nat.zero_add];rw[List.getElem?_append_left (List.getElem?_eq_some_iff.1 hu).1,hu]) ad 1 c1 ce (by rw[hsz,hl,Nat.one_mul]) hnews (by omega) (by omega) (growslice_fits (by omega) hnb)
    rw[hr]
    exact grow cap (by omega)
end
section
variable {P:Program} {ops:Array Oper} {o:Oper} {rest:List Oper} {a:Act} {Q:Exit→Act→World→Prop} {W:World} {b:Nat} {X:Nat→Prop} {M0 M:Nat→Nat→Prop} {w0:World} {L R:List nC} {L':List nC→List nC} {G:nD}
theorem aai{s x:Operand}{t T m bytes c1 g:Nat}{v z:Value}{es:List (List Value)}{ce:List Value}(HW:ah (LW b X M0 w0 L G M W))(n i:Nat)(hO:Out T m v es R)(hN:es.length≤1000000)
 (hinfo:(P.info? T).map (fun i=>(i.zero,i.size,i.bytes))=some (some z,m,bytes))(hzs:z.cells.size=m)(hT:T≠89)(hbytes:1000001*bytes≤140737488355328)(ht:P.underlying t=some (.slice T))
 (h:∀v' R' w',ah (LW b X M0 w0 (L' R') G M w')→Out T m v' (es++[ce]) R'→wpList P ops Q rest (a.put o.dst v') w')
 (ei:L[i]?=some ⟨g,ce,T⟩:=by rfl)(hl:ce.length=m:=by rfl)(h1:ce.all (fun v=>v.oneCell')=true:=by rfl)(hR:L.drop n=R:=by rfl)(ho:o.op= .call {callee:=.builtin .append,args:=#[s,x],argTypes:=#[t,t]}:=by rfl)(hs:a.eval s=v:=by rfl)(hx:a.eval x= .slice (some ⟨g,0,none⟩) 1 c1:=by rfl)(hgd:o.guard=none:=by rfl)
 (hL:∀R',L.take n++R'=L' R':=by(intro R';simp only[List.take_succ_cons,List.take_zero,List.cons_append,List.nil_append];rfl)):wpList P ops Q (o::rest) a W:=
 wpList_plain hgd fun K hK=>aah HW n hO hl (fun j u hu=>by rw[Addr.add_mid,ak (HW.out.at i ei)];simpa using hu) (gF h1) hN hinfo hzs hT hbytes ht (fun v' R' w' hW hO=>hK _ _ (h v' R' w' (hL R'▸hW) hO)) hR ho hs hx
end
theorem SC{b N C:Nat}{w:World}{M:Nat→Nat→Prop}{x0:Bool}{v1:Value}{x2:Int}{v3:Value}{x4:Int}{x5:ByteArray}{v6:Value}{x7 x8:Int}{v9:Value}{x10:Bool}{ph tx:ByteArray}(hw:TW b M w)(hb0:b≤w.heap.size)(E:ET b M w N C v1 x2 v3 x4 x5 v6 v9)(hN:N≤3000000)(hph:ph.size≤1000)(htx:tx.size≤1000):Calls Tryz.prog 81 #[.agg (eC x0 v1 x2 v3 x4 x5 v6 x7 x8 v9 x10).toArray,.string ph,.string tx] w (Lx b M w (N+1) C):=by
 obtain⟨A1,n1,c1,A3,n3,c3,A6,n6,c6,A9,n9,c9,rfl,rfl,rfl,rfl,QC,QD⟩:=E.form4
 have HW:ah (LW b NX M w [] (xW b N C (.slice A1 n1 c1) x2 (.slice A3 n3 c3) x4 x5 (.slice A6 n6 c6) (.slice A9 n9 c9)) M w):=⟨LW.start hw E (Mon.et _ _ _ _ _ _ _ _ _)⟩
 clear hw E
 go_enter Tryz.func81,Tryz.ntmps81
 go_upto_region 3 with(first|((with_reducible refine gd 3 rfl ?_);refine lbx (N:=3) (t:=31) HW (eC x0 (.slice A1 n1 c1) x2 (.slice A3 n3 c3) x4 x5 (.slice A6 n6 c6) x7 x8 (.slice A9 n9 c9) x10) ?_;clear HW;intro g3 pJ HW)|((with_reducible refine gd 6 rfl ?_);refine lbx (N:=6) (t:=31) HW zE ?_;clear HW;intro g6 wR HW)|((with_reducible refine gd 13 rfl ?_);refine lls HW 1 6 _ Tryz.underlying26 ?_)|((with_reducible refine gq 87 rfl ?_);refine gl (some 22) Tryz.func87 #[(.int .i64 (tx.size:Int))] ?_;with_reducible refine(ah1 (tx.size:Int) (by omega) (by omega)).mono ?_;rintro e Ee ⟨Jl,rfl,azL,hb⟩;refine⟨_,rfl,?_⟩;replace HW:=ah.mk (HW.out.quiet hb);clear hb)|((with_reducible refine gd 24 rfl ?_);refine lfl (N:=24) HW (HW.out.hb hb0) (DL ph Jl) [(.string (⟨#[58,112,97,116,104]⟩:ByteArray)),(.string ph),(.bool false),(.string (⟨#[107,105,110,100]⟩:ByteArray)),(.string (⟨#[116,101,120,116]⟩:ByteArray)),(.bool false),(.string (⟨#[115,105,122,101]⟩:ByteArray)),(.string Jl),(.bool false)] (Jk _ _) ?_;intro a2z c105 zi HN qf;replace HW:=ah.mk (LW.fact (H:=FRF b (.slice a2z 3 c105) (DL ph Jl)) HN.out qf (Mon.fr _ _));clear HN qf))
 have apZ:=ah.mk (Q9 (p:=ph) (d:=Jl) (by omega) (by omega))
 obtain⟨rh_,ah2⟩:∃r,ah (jP (DL ph Jl)=r):=⟨_,⟨rfl⟩⟩
 cases x0 with
 |true=>
  go_wp2_with (first|((with_reducible refine gd 26 rfl ?_);refine lls HW 1 0 _ Tryz.underlying4 ?_)|((with_reducible refine gd 41 rfl ?_);refine lE HW 1 0 ?_)|((with_reducible refine gt 31 6 rfl ?_);refine iC HW 0 ?_;clear HW;intro zl HW))
  refine a2n HW 0 Tryz.underlying31 ?_
  exact⟨_,_,_,_,rfl,HW.out.ts,⟨_,_,_,_,_,_,_,_,_,_,_,rfl,(HW.out.g.1.up (by omega))⟩⟩
 |false=>
  by_cases wS:(2*(n6:Int))+1>7
  ·skip
   have Jm:=decide_eq_true wS
   go_wp2_with (first|((with_reducible refine gd 26 rfl ?_);refine lls HW 1 0 _ Tryz.underlying4 ?_)|((with_reducible refine gd 41 rfl ?_);refine lE HW 1 0 ?_)|((with_reducible refine gt 31 6 rfl ?_);refine iC HW 0 ?_;clear HW;intro zn HW))
   refine a2n HW 0 Tryz.underlying31 ?_
   exact⟨_,_,_,_,rfl,HW.out.ts,⟨_,_,_,_,_,_,_,_,_,_,_,rfl,(HW.out.g.1.up (by omega))⟩⟩
  ·skip
   have Jm:=decide_eq_false wS
   cases rh_ with
   |true=>
    go_upto_if 40 with(first|((with_reducible refine gd 26 rfl ?_);refine lls HW 1 0 _ Tryz.underlying4 ?_)|(go_at_call 54;with_reducible refine(Jj _ HW.out.g.2 ah2.out (Q8 _ _) apZ.out).mono ?_;rintro e Ef ⟨rfl,hb⟩;replace HW:=ah.mk (HW.out.quiet hb);clear hb)|(go_at_call 55;with_reducible refine(Jg tx (by omega)).mono ?_;rintro e Eg ⟨aq0,rfl,aaj,hb⟩;replace HW:=ah.mk (HW.out.quiet hb);clear hb))
    cases aq0 with
    |true=>
     go_upto_region 5 with(fail)
     have ah3:=aaj rfl
     replace HW:=ah.mk (LW.fact (H:=HVF b (.slice a2z 3 c105)) HW.out ⟨DL ph Jl,HW.out.g.2,ah2.out⟩ (Mon.hv _))
     go_wp2_with (first|((with_reducible refine gq 88 rfl ?_);refine gl (some 43) Tryz.func88 #[(.int .i64 ((2*(n6:Int))+1))] ?_;with_reducible refine(a2o ((2*(n6:Int))+1) (HW.out.hb hb0)).mono ?_;rintro e zo ⟨ah4,ah5,ah6,SF,SG,SH,rfl,hs_,hb⟩;refine⟨_,rfl,?_⟩;replace HW:=ah.mk (LW.fact (H:=Jf b (.slice ah4 ah5 ah6) (⟨#[]⟩:ByteArray) 0 (.slice SF SG SH) (⟨#[]⟩:ByteArray)) (HW.out.quiet hb) hs_ (Mon.st _ _ _ _ _));clear hs_ hb)|((with_reducible refine gd 11 rfl ?_);refine lbx (N:=11) (t:=39) HW zS ?_;clear HW;intro g11 vP HW)|((with_reducible refine gt 39 11 rfl ?_);refine iC HW 0 ?_;clear HW;intro uZ HW)|((with_reducible refine gt 23 45 rfl ?_);refine ow HW 0 2 (.slice a2z 3 c105) (sC _ _ _ _ _ _ _ _ _ _ _ _) ([_]) ?_ (gF rfl);clear HW;intro Cq HW)|((with_reducible refine gt 9 47 rfl ?_);refine ow HW 0 3 (.string tx) (sC _ _ _ _ _ _ _ _ _ _ _ _) ([_]) ?_ (gF rfl);clear HW;intro zu HW)|((with_reducible refine gd 49 rfl ?_);refine lls HW 2 6 _ Tryz.underlying26 ?_)|((with_reducible refine gd 50 rfl ?_);refine lS HW 0 0 ?_)|((with_reducible refine gd 51 rfl ?_);refine MC (N:=51) (t:=39) (m:=1) HW (sC ((2*(n6:Int))+1) 1 (.slice a2z 3 c105) tx false false 0 (.slice SF SG SH) (⟨#[]⟩:ByteArray) false 8 8) ?_;clear HW;intro g51 zw HW)|((with_reducible refine gd 52 rfl ?_);refine lap (T:=39) (m:=1) (bytes:=136) (z:=.agg (sC 0 0 (.slice none 0 0) (⟨#[]⟩:ByteArray) false false 0 (.slice none 0 0) (⟨#[]⟩:ByteArray) false 0 0).toArray) (news:=sC ((2*(n6:Int))+1) 1 (.slice a2z 3 c105) tx false false 0 (.slice SF SG SH) (⟨#[]⟩:ByteArray) false 8 8) HW (HW.out.g.1.1.1.s6) (HW.out.hb hb0) rfl (z8 HW.out (i:=0) rfl) (gF rfl) (by decide) (fun i hi=>by obtain rfl:i=0:=(by omega);exact .inl ⟨rfl,_,_,_,_,_,_,_,_,_,_,_,_,rfl,⟨HW.out.g.1.2,HW.out.g.2.h7,(by decide),(by omega),(by omega),(by decide)⟩⟩) (by kernel_rfl) (by rfl) (by decide) (by omega) (by simp only[maxLen];omega) Tryz.underlying26 ?_;intro a2A Qc aEW Cr HN gT qf;replace HW:=ah.mk (LW.fact (H:=Yh 39 (N+1) (.slice a2A (n6+1) Qc)) HN.out qf (Mon.sl _ _ _));clear HN qf gT)|((with_reducible refine gt 26 53 rfl ?_);refine ow HW 3 6 (.slice a2A (n6+1) Qc) (eC _ _ _ _ _ _ _ _ _ _ _) ([_]) ?_ (gF rfl);clear HW;intro Eh HW)|((with_reducible refine gd 54 rfl ?_);refine lE HW 3 0 ?_)|((with_reducible refine gt 31 6 rfl ?_);refine iC HW 2 ?_;clear HW;intro GJ HW))
     refine a2n HW 2 Tryz.underlying31 ?_
     exact⟨_,_,_,_,rfl,HW.out.ts,⟨_,_,_,_,_,_,_,_,_,_,_,rfl,⟨HW.out.g.1.1.1.1.t1,HW.out.g.1.1.1.1.t3,HW.out.g.1.1.1.1.c5,(HW.out.g.2.mono (N':=(N+1)) (by omega)),(HW.out.g.1.1.1.1.s9.mono (N':=(N+1)) (by omega))⟩⟩⟩
    |false=>
     go_wp2_with (first|((with_reducible refine gd 41 rfl ?_);refine lE HW 1 0 ?_)|((with_reducible refine gt 31 6 rfl ?_);refine iC HW 0 ?_;clear HW;intro GK HW))
     refine a2n HW 0 Tryz.underlying31 ?_
     exact⟨_,_,_,_,rfl,HW.out.ts,⟨_,_,_,_,_,_,_,_,_,_,_,rfl,(HW.out.g.1.up (by omega))⟩⟩
   |false=>
    go_wp2_with (first|((with_reducible refine gd 26 rfl ?_);refine lls HW 1 0 _ Tryz.underlying4 ?_)|(go_at_call 54;with_reducible refine(Jj _ HW.out.g.2 ah2.out (Q8 _ _) apZ.out).mono ?_;rintro e LF ⟨rfl,hb⟩;replace HW:=ah.mk (HW.out.quiet hb);clear hb)|((with_reducible refine gd 41 rfl ?_);refine lE HW 1 0 ?_)|((with_reducible refine gt 31 6 rfl ?_);refine iC HW 0 ?_;clear HW;intro ah7 HW))
    refine a2n HW 0 Tryz.underlying31 ?_
    exact⟨_,_,_,_,rfl,HW.out.ts,⟨_,_,_,_,_,_,_,_,_,_,_,rfl,(HW.out.g.1.up (by omega))⟩⟩
theorem GL{b N C:Nat}{w:World}{M:Nat→Nat→Prop}{x0:Bool}{v1:Value}{x2:Int}{v3:Value}{x4:Int}{x5:ByteArray}{v6:Value}{x7 x8:Int}{v9:Value}{x10:Bool}(hw:TW b M w)(hb0:b≤w.heap.size)(E:ET b M w N C v1 x2 v3 x4 x5 v6 v9)(hN:N≤3000000):Calls Tryz.prog 24 #[.agg (eC x0 v1 x2 v3 x4 x5 v6 x7 x8 v9 x10).toArray] w (EPost b M w N C):=by
 obtain⟨A1,n1,c1,A3,n3,c3,A6,n6,c6,A9,n9,c9,rfl,rfl,rfl,rfl,QC,QD⟩:=E.form4
 have HW:ah (LW b NX M w [] (xW b N C (.slice A1 n1 c1) x2 (.slice A3 n3 c3) x4 x5 (.slice A6 n6 c6) (.slice A9 n9 c9)) M w):=⟨LW.start hw E (Mon.et _ _ _ _ _ _ _ _ _)⟩
 clear hw E
 go_enter Tryz.func24,Tryz.ntmps24
 go_wp2_with (first|((with_reducible refine gd 1 rfl ?_);refine lbx (N:=1) (t:=31) HW (eC x0 (.slice A1 n1 c1) x2 (.slice A3 n3 c3) x4 x5 (.slice A6 n6 c6) x7 x8 (.slice A9 n9 c9) x10) ?_;clear HW;intro g1 pJ HW)|((with_reducible refine gd 2 rfl ?_);refine lbx (N:=2) (t:=31) HW zE ?_;clear HW;intro g2 wR HW)|((with_reducible refine gd 8 rfl ?_);refine lls HW 1 1 _ Tryz.underlying23 ?_)|((with_reducible refine gq 50 rfl ?_);refine gl (some 9) Tryz.func50 #[(.slice A1 n1 c1)] ?_;with_reducible refine(GD _ (HW.out.hb hb0) HW.out.g.t1).mono ?_;rintro e Ee ⟨Wt,Wu,Wv,rfl,gT,hb⟩;refine⟨_,rfl,?_⟩;replace HW:=ah.mk (LW.fact (H:=TVF b (.slice Wt Wu Wv) x2) (HW.out.quiet hb) gT (Mon.tv _ _));clear gT hb)|((with_reducible refine gt 23 11 rfl ?_);refine ow HW 1 1 (.slice Wt Wu Wv) (eC _ _ _ _ _ _ _ _ _ _ _) ([_]) ?_ (gF rfl);clear HW;intro zi HW)|((with_reducible refine gd 14 rfl ?_);refine lls HW 1 3 _ Tryz.underlying23 ?_)|((with_reducible refine gq 50 rfl ?_);refine gl (some 15) Tryz.func50 #[(.slice A3 n3 c3)] ?_;with_reducible refine(GD _ (HW.out.hb hb0) HW.out.g.1.t3).mono ?_;rintro e zl ⟨Ww,Wx,Wy,rfl,gT,hb⟩;refine⟨_,rfl,?_⟩;replace HW:=ah.mk (LW.fact (H:=TVF b (.slice Ww Wx Wy) x4) (HW.out.quiet hb) gT (Mon.tv _ _));clear gT hb)|((with_reducible refine gt 23 17 rfl ?_);refine ow HW 1 3 (.slice Ww Wx Wy) (eC _ _ _ _ _ _ _ _ _ _ _) ([_]) ?_ (gF rfl);clear HW;intro Cs HW)|((with_reducible refine gd 18 rfl ?_);refine lbe (N:=18) (t:=39) HW (HW.out.hb hb0) ?_;intro v_ aSZ zn HN qf gT;obtain⟨aT0,n109,c109,rfl,adK⟩:∃A n c,v_= .slice A n c∧n=0:=qf.zero;subst adK;replace HW:=ah.mk (LW.sl HN.out qf);clear HN qf gT))
 go_loopg [3,4] (n6) (fun kq y3 y4 wq=>∃(Mq:Nat→Nat→Prop)(A3l:Option Addr)(n3l:Nat)(c3l:Nat)(iq:Int),(y3= .slice A3l n3l c3l)∧(y4= .int .i64 iq)∧ah (0≤iq∧iq≤(n6:Int)∧n6-iq.toNat≤kq)∧ah (LW b NX M w [⟨g2,eC false (.slice none 0 0) 0 (.slice none 0 0) 0 (⟨#[]⟩:ByteArray) (.slice none 0 0) 0 0 (.slice none 0 0) false,31⟩,⟨g1,eC x0 (.slice Wt Wu Wv) x2 (.slice Ww Wx Wy) x4 x5 (.slice A6 n6 c6) x7 x8 (.slice A9 n9 c9) x10,31⟩] (fun M w=>((xW b N C (.slice Wt Wu Wv) x2 (.slice Ww Wx Wy) x4 x5 (.slice A6 n6 c6) (.slice A9 n9 c9)) M w)∧(Yh 39 iq.toNat (.slice A3l n3l c3l)) M w) Mq wq))
 case atStart=>exact⟨_,_,_,_,0,rfl,rfl,⟨⟨(by omega),(by omega),(by omega)⟩⟩,⟨LW.less HW.out ⟨⟨HW.out.g.1.1.2,HW.out.g.1.2,HW.out.g.1.1.1.c5,(HW.out.g.1.1.1.s6.mono (N':=N) (by omega)),(HW.out.g.1.1.1.s9.mono (N':=N) (by omega))⟩,(HW.out.g.2.mono (N':=((0:Int).toNat)) (by omega))⟩ (Mon.and (Mon.et _ _ _ _ _ _ _ _ _) (Mon.sl _ _ _))⟩⟩
 case round=>
  clear HW
  obtain⟨Mq,A3l,n3l,c3l,iq,rfl,rfl,HI,HC⟩:=hrel
  have HW:=HC
  clear HC
  obtain⟨azM,azN,azO⟩:=HI.out
  go_upto_if 23 with(first|((with_reducible refine gd 21 rfl ?_);refine lls HW 1 6 _ Tryz.underlying26 ?_))
  by_cases uy:iq<(n6:Int)
  ·skip
   have GN:=decide_eq_true uy
   go_upto_region 7 with(fail)
   have GQ:=(show 0≤iq∧iq<(n6:Int)from⟨by omega,by omega⟩)
   obtain⟨aq1,a2B,_,_⟩:=SL.has (HW.out.g.1.s6) (by omega)
   subst a2B
   obtain⟨s0_e,s1_e,u2_e,s3_e,s4_e,s5_e,s6_e,u7_e,s8_e,s9_e,s10_e,s11_e,Qd,vk⟩:=HW.out.rd39 (HW.out.g.1.s6) (i:=iq) (by omega) (by omega)
   obtain⟨A2_e,n2_e,d2_e,A7_e,n7_e,d7_e,Ct,Cu⟩:=vk.form
   subst Ct Cu
   replace HW:=ah.mk (LW.fact (H:=Jf b (.slice A2_e n2_e d2_e) s3_e s6_e (.slice A7_e n7_e d7_e) s8_e) HW.out vk (Mon.st _ _ _ _ _))
   clear vk
   have YA:=eq_true GQ.1
   have YB:=eq_true GQ.2
   go_wp2_with (first|((with_reducible refine gd 27 rfl ?_);refine lls HW 1 6 _ Tryz.underlying26 ?_)|((with_reducible refine gd 30 rfl ?_);refine lrw (cs:=sC s0_e s1_e (.slice A2_e n2_e d2_e) s3_e s4_e s5_e s6_e (.slice A7_e n7_e d7_e) s8_e s9_e s10_e s11_e) Qd Tryz.underlying39 ?_)|((with_reducible refine gd 5 rfl ?_);refine lbx (N:=5) (t:=39) HW zS ?_;clear HW;intro g5 zx HW)|((with_reducible refine gt 39 5 rfl ?_);refine iC HW 0 ?_;clear HW;intro Eg HW)|((with_reducible refine gd 32 rfl ?_);refine lls HW 0 2 _ Tryz.underlying23 ?_)|((with_reducible refine gq 50 rfl ?_);refine gl (some 33) Tryz.func50 #[(.slice A2_e n2_e d2_e)] ?_;with_reducible refine(GH _ (HW.out.hb hb0) HW.out.g.2.h2).mono ?_;rintro e yh ⟨Wz,WA,WB,rfl,gT,hb⟩;refine⟨_,rfl,?_⟩;replace HW:=ah.mk (LW.fact (H:=HVF b (.slice Wz WA WB)) (HW.out.quiet hb) gT (Mon.hv _));clear gT hb)|((with_reducible refine gt 23 34 rfl ?_);refine ow HW 0 2 (.slice Wz WA WB) (sC _ _ _ _ _ _ _ _ _ _ _ _) ([_]) ?_ (gF rfl);clear HW;intro zo HW)|((with_reducible refine gd 36 rfl ?_);refine lls HW 0 7 _ Tryz.underlying23 ?_)|((with_reducible refine gq 50 rfl ?_);refine gl (some 37) Tryz.func50 #[(.slice A7_e n7_e d7_e)] ?_;with_reducible refine(GH _ (HW.out.hb hb0) HW.out.g.1.2.h7).mono ?_;rintro e uZ ⟨WC,WE,WG,rfl,gT,hb⟩;refine⟨_,rfl,?_⟩;replace HW:=ah.mk (LW.fact (H:=HVF b (.slice WC WE WG)) (HW.out.quiet hb) gT (Mon.hv _));clear gT hb)|((with_reducible refine gt 23 38 rfl ?_);refine ow HW 0 7 (.slice WC WE WG) (sC _ _ _ _ _ _ _ _ _ _ _ _) ([_]) ?_ (gF rfl);clear HW;intro Cq HW)|((with_reducible refine gd 40 rfl ?_);refine lS HW 0 0 ?_)|((with_reducible refine gd 41 rfl ?_);refine MC (N:=41) (t:=39) (m:=1) HW (sC s0_e s1_e (.slice Wz WA WB) s3_e s4_e s5_e s6_e (.slice WC WE WG) s8_e s9_e s10_e s11_e) ?_;clear HW;intro g41 zu HW)|((with_reducible refine gd 42 rfl ?_);refine lap (T:=39) (m:=1) (bytes:=136) (z:=.agg (sC 0 0 (.slice none 0 0) (⟨#[]⟩:ByteArray) false false 0 (.slice none 0 0) (⟨#[]⟩:ByteArray) false 0 0).toArray) (news:=sC s0_e s1_e (.slice Wz WA WB) s3_e s4_e s5_e s6_e (.slice WC WE WG) s8_e s9_e s10_e s11_e) HW (HW.out.g.1.1.1.2) (HW.out.hb hb0) rfl (z8 HW.out (i:=0) rfl) (gF rfl) (by decide) (fun i hi=>by obtain rfl:i=0:=(by omega);exact .inl ⟨rfl,_,_,_,_,_,_,_,_,_,_,_,_,rfl,⟨HW.out.g.1.2,HW.out.g.2,HW.out.g.1.1.2.s0,HW.out.g.1.1.2.s1,HW.out.g.1.1.2.s3,HW.out.g.1.1.2.s8⟩⟩) (by kernel_rfl) (by rfl) (by decide) (by omega) (by simp only[maxLen];omega) Tryz.underlying26 ?_;intro ah8 ah9 aEX zw HN gT qf;replace HW:=ah.mk (LW.fact (H:=Yh 39 (iq.toNat+1) (.slice ah8 (n3l+1) ah9)) HN.out qf (Mon.sl _ _ _));clear HN qf gT))
   go_roundg (n6-(iq+1).toNat)
   case measure=>omega
   case rel=>exact⟨_,_,_,_,_,rfl,rfl,⟨⟨(by omega),(by omega),(by omega)⟩⟩,⟨LW.less HW.out.drop.drop ⟨(HW.out.g.1.1.1.1.1.up (by omega)),(HW.out.g.2.mono (N':=((iq+1).toNat)) (by omega))⟩ (Mon.and (Mon.et _ _ _ _ _ _ _ _ _) (Mon.sl _ _ _))⟩⟩
  ·skip
   have GN:=decide_eq_false uy
   go_wp2_with (first|((with_reducible refine gt 26 44 rfl ?_);refine ow HW 1 6 (.slice A3l n3l c3l) (eC _ _ _ _ _ _ _ _ _ _ _) ([_]) ?_ (gF rfl);clear HW;intro Cr HW)|((with_reducible refine gd 45 rfl ?_);refine lbe (N:=45) (t:=42) HW (HW.out.hb hb0) ?_;intro v_ aT1 Eh HN qf gT;obtain⟨aT2,n124,c124,rfl,aq2⟩:∃A n c,v_= .slice A n c∧n=0:=qf.zero;subst aq2;replace HW:=ah.mk (LW.sl HN.out qf);clear HN qf gT)|((with_reducible refine gd 47 rfl ?_);refine lls HW 1 9 _ Tryz.underlying29 ?_)|((with_reducible refine gd 48 rfl ?_);refine aEQ (T:=42) (bytes:=40) (z:=.agg (fC 0 false 0 (⟨#[]⟩:ByteArray)).toArray) HW (HW.out.g.2) (HW.out.g.1.1.s9) (HW.out.hb hb0) (by kernel_rfl) (by rfl) (by decide) (by decide) (by omega) (by simp only[maxLen];omega) Tryz.underlying29 ?_;intro aq3 a2C aT3 GJ HN gT qf;simp only[Nat.zero_add]at qf ⊢;replace HW:=ah.mk (LW.fact (H:=Yh 42 N (.slice aq3 n9 a2C)) HN.out qf (Mon.sl _ _ _));clear HN qf gT)|((with_reducible refine gt 29 49 rfl ?_);refine ow HW 1 9 (.slice aq3 n9 a2C) (eC _ _ _ _ _ _ _ _ _ _ _) ([_]) ?_ (gF rfl);clear HW;intro GK HW)|((with_reducible refine gd 50 rfl ?_);refine lE HW 1 0 ?_)|((with_reducible refine gt 31 2 rfl ?_);refine iC HW 0 ?_;clear HW;intro LF HW))
   refine kP HW 0 Tryz.underlying31 ?_
   exact⟨_,_,rfl,HW.out.ts,⟨_,_,_,_,_,_,_,_,_,_,_,rfl,⟨HW.out.g.1.1.1.t1,HW.out.g.1.1.1.t3,HW.out.g.1.1.1.c5,(HW.out.g.1.1.2.mono (N':=N) (by omega)),(HW.out.g.2.mono (N':=N) (by omega))⟩⟩⟩
theorem GR{b N C:Nat}{w:World}{M:Nat→Nat→Prop}{x0:Bool}{v1:Value}{x2:Int}{v3:Value}{x4:Int}{x5:ByteArray}{v6:Value}{x7 x8:Int}{v9:Value}{x10:Bool}{s0 s1:Int}{u2:Value}{s3:ByteArray}{s4 s5:Bool}{s6:Int}{u7:Value}{s8:ByteArray}{s9:Bool}{s10 s11:Int}(hw:TW b M w)(hb0:b≤w.heap.size)(E:ET b M w N C v1 x2 v3 x4 x5 v6 v9)(hN:N≤4000000)(hS:ST b w u2 s3 s6 u7 s8):Calls Tryz.prog 107 #[.agg (eC x0 v1 x2 v3 x4 x5 v6 x7 x8 v9 x10).toArray,.agg (sC s0 s1 u2 s3 s4 s5 s6 u7 s8 s9 s10 s11).toArray] w (Wo b M w):=by
 obtain⟨A1,n1,c1,A3,n3,c3,A6,n6,c6,A9,n9,c9,rfl,rfl,rfl,rfl,QC,QD⟩:=E.form4
 obtain⟨A2,n2,d2,A7,n7,d7,Ct,Cu⟩:=hS.form
 subst Ct Cu
 have HW:ah (LW b NX M w [] (xW b N C (.slice A1 n1 c1) x2 (.slice A3 n3 c3) x4 x5 (.slice A6 n6 c6) (.slice A9 n9 c9)) M w):=⟨LW.start hw E (Mon.et _ _ _ _ _ _ _ _ _)⟩
 replace HW:=ah.mk (LW.fact (H:=Jf b (.slice A2 n2 d2) s3 s6 (.slice A7 n7 d7) s8) HW.out hS (Mon.st _ _ _ _ _))
 clear hw E hS
 go_enter Tryz.func107,Tryz.ntmps107
 go_upto_if 8 with(first|((with_reducible refine gd 2 rfl ?_);refine lbx (N:=2) (t:=31) HW (eC x0 (.slice A1 n1 c1) x2 (.slice A3 n3 c3) x4 x5 (.slice A6 n6 c6) x7 x8 (.slice A9 n9 c9) x10) ?_;clear HW;intro g2 pJ HW)|((with_reducible refine gd 3 rfl ?_);refine lbx (N:=3) (t:=39) HW (sC s0 s1 (.slice A2 n2 d2) s3 s4 s5 s6 (.slice A7 n7 d7) s8 s9 s10 s11) ?_;clear HW;intro g3 wR HW)|((with_reducible refine gd 4 rfl ?_);refine lbx (N:=4) (t:=39) HW zS ?_;clear HW;intro g4 Cv HW)|((with_reducible refine gt 4 5 rfl ?_);refine ow HW 1 9 (.bool true) (sC _ _ _ _ _ _ _ _ _ _ _ _) ([_]) ?_ (gF rfl);clear HW;intro Ee HW)|((with_reducible refine gd 7 rfl ?_);refine lls HW 1 1 _ Tryz.underlying3 ?_))
 by_cases c105:s1=1
 ·skip
  subst c105
  go_upto_if 11 with(first|((with_reducible refine gd 11 rfl ?_);refine lls HW 2 0 _ Tryz.underlying4 ?_))
  cases x0 with
  |true=>
   go_wp2_with (first|((with_reducible refine gd 12 rfl ?_);refine lS HW 1 0 ?_)|((with_reducible refine gq 112 rfl ?_);refine gl (some 13) Tryz.func112 #[(.agg (sC _ _ _ _ _ _ _ _ _ _ _ _).toArray)] ?_;with_reducible refine(agZ HW.out.ts.tw (HW.out.hb hb0) HW.out.g.2).mono ?_;rintro e Cs h_;obtain⟨E_,M_107,rfl,gT,hE_⟩:=h_.out;refine⟨_,rfl,?_⟩;obtain⟨aEY,aEZ,u2_,aF0,aF1,aF2,aF3,u7_,aF4,aF5,azP,azQ,rfl,hF_⟩:=hE_.out;clear hE_;obtain⟨aF6,aF7,aF8,aF9,aFa,aFb,Ct,Cu⟩:=hF_.form;subst Ct Cu;replace HW:=ah.mk ((HW.out.call gT).st hF_);clear gT hF_)|((with_reducible refine gt 39 4 rfl ?_);refine iC HW 0 ?_;clear HW;intro zn HW))
   refine kP HW 0 Tryz.underlying39 ?_
   exact⟨_,_,rfl,HW.out.ts,⟨_,_,_,_,_,_,_,_,_,_,_,_,rfl,HW.out.g.2⟩⟩
  |false=>
   go_wp2_with (first|((with_reducible refine gt 3 14 rfl ?_);refine ow HW 1 1 (.int .i64 2) (sC _ _ _ _ _ _ _ _ _ _ _ _) ([_]) ?_ (gF rfl);clear HW;intro Cw HW)|((with_reducible refine gd 15 rfl ?_);refine lS HW 1 0 ?_)|((with_reducible refine gt 39 4 rfl ?_);refine iC HW 0 ?_;clear HW;intro GU HW))
   refine kP HW 0 Tryz.underlying39 ?_
   exact⟨_,_,rfl,HW.out.ts,⟨_,_,_,_,_,_,_,_,_,_,_,_,rfl,HW.out.g.2⟩⟩
 ·skip
  have Jo:(s1==1)=false:=beq_eq_false_iff_ne.mpr c105
  have adL:(s1 != 1)=true:=bne_iff_ne.mpr c105
  go_wp2_with (first|((with_reducible refine gd 9 rfl ?_);refine lS HW 1 0 ?_)|((with_reducible refine gt 39 4 rfl ?_);refine iC HW 0 ?_;clear HW;intro Ef HW))
  refine kP HW 0 Tryz.underlying39 ?_
  exact⟨_,_,rfl,HW.out.ts,⟨_,_,_,_,_,_,_,_,_,_,_,_,rfl,HW.out.g.2⟩⟩
theorem Jp{b:Nat}{w:World}{M:Nat→Nat→Prop}(x0:Bool)(hw:TW b M w)(hb0:b≤w.heap.size):Calls Tryz.prog 79 #[.bool x0] w (EPost b M w 0 700):=by
 have HW:ah (LW b NX M w [] (fun _ _=>True) M w):=⟨LW.start hw trivial (Mon.top _)⟩
 clear hw
 go_enter Tryz.func79,Tryz.ntmps79
 go_wp2_with (first|((with_reducible refine gd 2 rfl ?_);refine lbx (N:=2) (t:=31) HW zE ?_;clear HW;intro g2 pJ HW)|((with_reducible refine gq 86 rfl ?_);refine gl (some 4) Tryz.func86 #[] ?_;with_reducible refine(a2s (HW.out.hb hb0)).mono ?_;rintro e Cv ⟨aq4,aq5,aq6,rfl,gT,hb⟩;refine⟨_,rfl,?_⟩;replace HW:=ah.mk (LW.fact (H:=TVF b (.slice aq4 aq5 aq6) 64) (HW.out.quiet hb) gT (Mon.tv _ _));clear gT hb)|((with_reducible refine gq 86 rfl ?_);refine gl (some 5) Tryz.func86 #[] ?_;with_reducible refine(a2s (HW.out.hb hb0)).mono ?_;rintro e zi ⟨GV,GX,GY,rfl,gT,hb⟩;refine⟨_,rfl,?_⟩;replace HW:=ah.mk (LW.fact (H:=TVF b (.slice GV GX GY) 64) (HW.out.quiet hb) gT (Mon.tv _ _));clear gT hb)|((with_reducible refine gd 6 rfl ?_);refine lbe (N:=6) (t:=39) HW (HW.out.hb hb0) ?_;intro v_ aFc I7 HN qf gT;obtain⟨aFd,n106,zy,rfl,WH⟩:∃A n c,v_= .slice A n c∧n=0:=qf.zero;subst WH;replace HW:=ah.mk (LW.sl HN.out qf);clear HN qf gT)|((with_reducible refine gd 8 rfl ?_);refine lbe (N:=8) (t:=42) HW (HW.out.hb hb0) ?_;intro v_ aT4 zl HN qf gT;obtain⟨aT5,n107,c107,rfl,aq7⟩:∃A n c,v_= .slice A n c∧n=0:=qf.zero;subst aq7;replace HW:=ah.mk (LW.sl HN.out qf);clear HN qf gT)|((with_reducible refine gt 31 2 rfl ?_);refine iC HW 0 ?_;clear HW;intro Cs HW))
 refine kP HW 0 Tryz.underlying31 ?_
 exact⟨_,_,rfl,HW.out.ts,⟨_,_,_,_,_,_,_,_,_,_,_,rfl,⟨HW.out.g.1.1.1.2,HW.out.g.1.1.2,(by decide),(HW.out.g.1.2.mono (N':=0) (by omega)),(HW.out.g.2.mono (N':=0) (by omega))⟩⟩⟩
theorem Qe{b N g:Nat}{l:List Int}{wr w:World}{M:Nat→Nat→Prop}{v:Value}{x:Int}{x0:Bool}{v1:Value}{x2:Int}{v3:Value}{x4:Int}{x5:ByteArray}{v6:Value}{x7 x8:Int}{v9:Value}{x10:Bool}{y0:Bool}{u1:Value}{y2:Int}{u3:Value}{y4:Int}{y5:ByteArray}{u6:Value}{y7 y8:Int}{u9:Value}{oH:Bool}{su sd:ByteArray}(hw:TW b M w)(hb0:b≤w.heap.size)(hR:RB b wr g l)(hB0:Below wr.heap.size wr w)(hg:w.heap[g]?=some (.cells (rC v x).toArray 75 (0,0)))(hn:∀n,¬M g n)(hv:RV wr l v)(h0:0≤x)(h1:x≤900000)(E:ET b M w N 700 v1 x2 v3 x4 x5 v6 v9)(F:ET b M w N 700 u1 y2 u3 y4 y5 u6 u9)(hN:N≤1000000):Calls Tryz.prog 68 #[.pointer (some ⟨g,0,none⟩),.agg (wC x0 v1 x2 v3 x4 x5 v6 x7 x8 v9 x10 y0 u1 y2 u3 y4 y5 u6 y7 y8 u9 oH su sd).toArray] w (a2t b wr g l (x+60) M w):=by
 obtain⟨A1,n1,c1,A3,n3,c3,A6,n6,c6,A9,n9,c9,rfl,rfl,rfl,rfl,QC,QD⟩:=E.form4
 obtain⟨B1,m1,k1,B3,m3,k3,B6,m6,k6,B9,m9,k9,rfl,rfl,rfl,rfl,hm6,hm9⟩:=F.form4
 have kQ:=ah.mk hw
 have HW:ah (LW b (RX g) M w [⟨g,rC v x,75⟩] (xW b N 700 (.slice A1 n1 c1) x2 (.slice A3 n3 c3) x4 x5 (.slice A6 n6 c6) (.slice A9 n9 c9)) M w):=⟨LW.startR hw hg hn E (Mon.et _ _ _ _ _ _ _ _ _)⟩
 replace HW:=ah.mk (LW.fact (H:=xW b N 700 (.slice B1 m1 k1) y2 (.slice B3 m3 k3) y4 y5 (.slice B6 m6 k6) (.slice B9 m9 k9)) HW.out F (Mon.et _ _ _ _ _ _ _ _ _))
 clear hw hg E F
 go_enter Tryz.func68,Tryz.ntmps68
 go_upto_if 8 with(first|((with_reducible refine gd 3 rfl ?_);refine lbx (N:=3) (t:=47) HW (wC x0 (.slice A1 n1 c1) x2 (.slice A3 n3 c3) x4 x5 (.slice A6 n6 c6) x7 x8 (.slice A9 n9 c9) x10 y0 (.slice B1 m1 k1) y2 (.slice B3 m3 k3) y4 y5 (.slice B6 m6 k6) y7 y8 (.slice B9 m9 k9) oH su sd) ?_;clear HW;intro g3 pJ HW)|((with_reducible refine gd 4 rfl ?_);refine lbx (N:=4) (t:=99) HW (vC 0 0 0 (⟨#[]⟩:ByteArray) (⟨#[]⟩:ByteArray)) ?_;clear HW;intro g4 wR HW)|((with_reducible refine gq 22 rfl ?_);refine gl (some 7) Tryz.func22 #[(.pointer (some ⟨g,0,none⟩)),(.int .i64 12)] ?_;with_reducible refine(jc 12 hR (HW.out.under hR hB0 kQ.out) (HW.out.at 2 rfl) hv h0 (by omega) (by omega)).mono ?_;rintro e Ee ⟨nE,aFg,aFh,rfl,aha,ahb,iI⟩;refine⟨_,rfl,?_⟩;refine Br HW 2 iI rfl ?_;clear HW iI;intro HW sF sG azR;have aFi:=eq_true aha;have aFj:=eq_true ahb))
 by_cases c105:nE=0
 ·skip
  subst c105
  go_wp2_with (first|((with_reducible refine gq 69 rfl ?_);refine gl (some 12) Tryz.func69 #[(.pointer (some ⟨g,0,none⟩))] ?_;with_reducible refine(LC hR (HW.out.under hR hB0 kQ.out) (HW.out.at 2 rfl) sF sG (by omega)).mono ?_;rintro e zl ⟨aON,ahc,ahd,rfl,aFk,iI⟩;refine⟨_,rfl,?_⟩;refine Br HW 2 iI rfl ?_;clear HW iI;intro HW sH sI aak)|((with_reducible refine gq 70 rfl ?_);refine gl (some 14) Tryz.func70 #[(.pointer (some ⟨g,0,none⟩))] ?_;with_reducible refine(LD hR (HW.out.under hR hB0 kQ.out) (HW.out.at 2 rfl) sH sI (by omega)).mono ?_;rintro e zn ⟨aOO,ahe,ahf,rfl,aFl,iI⟩;refine⟨_,rfl,?_⟩;refine Br HW 2 iI rfl ?_;clear HW iI;intro HW xY xZ aal)|((with_reducible refine gt 99 4 rfl ?_);refine iC HW 0 ?_;clear HW;intro Cw HW))
  refine kP HW 0 Tryz.underlying99 ?_
  exact⟨_,_,_,_,rfl,⟨HW.out.ts,HW.out.at 2 rfl,xY,xZ,by omega⟩,⟨_,_,_,_,_,rfl,(by omega),(by omega)⟩⟩
 ·skip
  have Jo:(nE==0)=false:=beq_eq_false_iff_ne.mpr c105
  have adL:(nE != 0)=true:=bne_iff_ne.mpr c105
  go_upto_if 8 with(fail)
  by_cases uy:nE=1
  ·skip
   subst uy
   go_wp2_with (first|((with_reducible refine gq 69 rfl ?_);refine gl (some 12) Tryz.func69 #[(.pointer (some ⟨g,0,none⟩))] ?_;with_reducible refine(LC hR (HW.out.under hR hB0 kQ.out) (HW.out.at 2 rfl) sF sG (by omega)).mono ?_;rintro e zx ⟨aOP,aFm,aFn,rfl,aFo,iI⟩;refine⟨_,rfl,?_⟩;refine Br HW 2 iI rfl ?_;clear HW iI;intro HW aam aan azS)|((with_reducible refine gq 70 rfl ?_);refine gl (some 14) Tryz.func70 #[(.pointer (some ⟨g,0,none⟩))] ?_;with_reducible refine(LD hR (HW.out.under hR hB0 kQ.out) (HW.out.at 2 rfl) aam aan (by omega)).mono ?_;rintro e I8 ⟨aOQ,aFp,aFq,rfl,aFr,iI⟩;refine⟨_,rfl,?_⟩;refine Br HW 2 iI rfl ?_;clear HW iI;intro HW aao aap azT)|((with_reducible refine gt 99 4 rfl ?_);refine iC HW 0 ?_;clear HW;intro yh HW))
   refine kP HW 0 Tryz.underlying99 ?_
   exact⟨_,_,_,_,rfl,⟨HW.out.ts,HW.out.at 2 rfl,aao,aap,by omega⟩,⟨_,_,_,_,_,rfl,(by omega),(by omega)⟩⟩
  ·skip
   have GN:(nE==1)=false:=beq_eq_false_iff_ne.mpr uy
   have a2D:(nE != 1)=true:=bne_iff_ne.mpr uy
   go_upto_if 16 with(fail)
   by_cases c117:nE=2
   ·skip
    subst c117
    go_upto_if 20 with(first|((with_reducible refine gq 22 rfl ?_);refine gl (some 19) Tryz.func22 #[(.pointer (some ⟨g,0,none⟩)),(.int .i64 2)] ?_;with_reducible refine(jc 2 hR (HW.out.under hR hB0 kQ.out) (HW.out.at 2 rfl) sF sG (by omega) (by omega)).mono ?_;rintro e uZ ⟨a2E,ahg,ahh,rfl,ahi,ahj,iI⟩;refine⟨_,rfl,?_⟩;refine Br HW 2 iI rfl ?_;clear HW iI;intro HW F7 F8 aaq;have aFs:=eq_true ahi;have aFt:=eq_true ahj))
    by_cases sW:a2E=0
    ·skip
     subst sW
     go_wp2_with (first|((with_reducible refine gd 24 rfl ?_);refine lls HW 1 6 _ Tryz.underlying26 ?_)|((with_reducible refine gd 26 rfl ?_);refine aES _ _ ?_;intro aar azU azV azW)|((with_reducible refine gq 22 rfl ?_);refine gl (some 27) Tryz.func22 #[(.pointer (some ⟨g,0,none⟩)),(.int .i64 aar)] ?_;with_reducible refine(jc aar hR (HW.out.under hR hB0 kQ.out) (HW.out.at 2 rfl) F7 F8 (by omega) (by omega)).mono ?_;rintro e Cr ⟨aq8,ahk,ahl,rfl,SI,SK,iI⟩;refine⟨_,rfl,?_⟩;refine Br HW 2 iI rfl ?_;clear HW iI;intro HW WI WJ aas;have ahm:=eq_true SI;have ahn:=eq_true SK)|((with_reducible refine gt 99 4 rfl ?_);refine iC HW 0 ?_;clear HW;intro Eh HW))
     refine kP HW 0 Tryz.underlying99 ?_
     exact⟨_,_,_,_,rfl,⟨HW.out.ts,HW.out.at 2 rfl,WI,WJ,by omega⟩,⟨_,_,_,_,_,rfl,(by decide),(by decide)⟩⟩
    ·skip
     have Qf:(a2E==0)=false:=beq_eq_false_iff_ne.mpr sW
     have Qg:(a2E != 0)=true:=bne_iff_ne.mpr sW
     go_upto_if 44 with(first|((with_reducible refine gq 22 rfl ?_);refine gl (some 40) Tryz.func22 #[(.pointer (some ⟨g,0,none⟩)),(.int .i64 2)] ?_;with_reducible refine(jc 2 hR (HW.out.under hR hB0 kQ.out) (HW.out.at 2 rfl) F7 F8 (by omega) (by omega)).mono ?_;rintro e GK ⟨aOR,aFu,aFv,rfl,aho,ahp,iI⟩;refine⟨_,rfl,?_⟩;refine Br HW 2 iI rfl ?_;clear HW iI;intro HW F9 Fa azX;have aFw:=eq_true aho;have aFx:=eq_true ahp)|((with_reducible refine gd 42 rfl ?_);refine lls HW 1 22 _ Tryz.underlying9 ?_))
     by_cases c127:(su.size:Int)=0
     ·skip
      have a2F:((su.size:Int)==0)=true:=beq_iff_eq.mpr c127
      have aq9:((su.size:Int) != 0)=false:=bne_eq_false_iff_eq.mpr c127
      have aOS:=ah.mk c127
      clear c127
      go_upto_if 48 with(first|((with_reducible refine gd 46 rfl ?_);refine lls HW 1 23 _ Tryz.underlying9 ?_))
      by_cases vo:(sd.size:Int)=0
      ·skip
       have GZ:((sd.size:Int)==0)=true:=beq_iff_eq.mpr vo
       have a2G:((sd.size:Int) != 0)=false:=bne_eq_false_iff_eq.mpr vo
       have aqa:=ah.mk vo
       clear vo
       go_wp2_with (first|((with_reducible refine gd 50 rfl ?_);refine MC (N:=50) (t:=3) (m:=7) HW [(.int .i64 1),(.int .i64 3),(.int .i64 7),(.int .i64 20),(.int .i64 45),(.int .i64 90),(.int .i64 90)] ?_;clear HW;intro g50 SN HW)|((with_reducible refine gq 22 rfl ?_);refine gl (some 52) Tryz.func22 #[(.pointer (some ⟨g,0,none⟩)),(.int .i64 7)] ?_;with_reducible refine(jc 7 hR (HW.out.under hR hB0 kQ.out) (HW.out.at 3 rfl) F9 Fa (by omega) (by omega)).mono ?_;rintro e Qh ⟨aqb,aFy,aFz,rfl,ahr,ahs,iI⟩;refine⟨_,rfl,?_⟩;refine Br HW 3 iI rfl ?_;clear HW iI;intro HW aat aau azY;have aFA:=eq_true ahr;have aFB:=eq_true ahs)|((with_reducible refine gd 54 rfl ?_);refine lli HW 0 aqb 7 (by omega) (by omega) Tryz.underlying3 ?_;intro a8w)|((with_reducible refine gt 99 4 rfl ?_);refine iC HW 1 ?_;clear HW;intro a2H HW))
       refine kP HW 1 Tryz.underlying99 ?_
       exact⟨_,_,_,_,rfl,⟨HW.out.ts,HW.out.at 3 rfl,aat,aau,by omega⟩,⟨_,_,_,_,_,rfl,(by decide),(by decide)⟩⟩
      ·skip
       have GZ:((sd.size:Int)==0)=false:=beq_eq_false_iff_ne.mpr vo
       have a2G:((sd.size:Int) != 0)=true:=bne_iff_ne.mpr vo
       go_wp2_with (first|((with_reducible refine gd 50 rfl ?_);refine MC (N:=50) (t:=3) (m:=7) HW [(.int .i64 1),(.int .i64 3),(.int .i64 7),(.int .i64 20),(.int .i64 45),(.int .i64 90),(.int .i64 90)] ?_;clear HW;intro g50 a2I HW)|((with_reducible refine gq 22 rfl ?_);refine gl (some 52) Tryz.func22 #[(.pointer (some ⟨g,0,none⟩)),(.int .i64 7)] ?_;with_reducible refine(jc 7 hR (HW.out.under hR hB0 kQ.out) (HW.out.at 3 rfl) F9 Fa (by omega) (by omega)).mono ?_;rintro e a2J ⟨aqc,aFC,aFD,rfl,aht,ahu,iI⟩;refine⟨_,rfl,?_⟩;refine Br HW 3 iI rfl ?_;clear HW iI;intro HW aav aaw azZ;have aFE:=eq_true aht;have aFF:=eq_true ahu)|((with_reducible refine gd 54 rfl ?_);refine lli HW 0 aqc 7 (by omega) (by omega) Tryz.underlying3 ?_;intro aT6)|((with_reducible refine gt 99 4 rfl ?_);refine iC HW 1 ?_;clear HW;intro aqd HW))
       refine kP HW 1 Tryz.underlying99 ?_
       exact⟨_,_,_,_,rfl,⟨HW.out.ts,HW.out.at 3 rfl,aav,aaw,by omega⟩,⟨_,_,_,_,_,rfl,(by decide),(by decide)⟩⟩
     ·skip
      have a2F:((su.size:Int)==0)=false:=beq_eq_false_iff_ne.mpr c127
      have aq9:((su.size:Int) != 0)=true:=bne_iff_ne.mpr c127
      go_upto_if 48 with(first|((with_reducible refine gd 46 rfl ?_);refine lls HW 1 23 _ Tryz.underlying9 ?_))
      by_cases c139:(sd.size:Int)=0
      ·skip
       have a2K:((sd.size:Int)==0)=true:=beq_iff_eq.mpr c139
       have aqe:((sd.size:Int) != 0)=false:=bne_eq_false_iff_eq.mpr c139
       have aOT:=ah.mk c139
       clear c139
       go_wp2_with (first|((with_reducible refine gd 50 rfl ?_);refine MC (N:=50) (t:=3) (m:=7) HW [(.int .i64 1),(.int .i64 3),(.int .i64 7),(.int .i64 20),(.int .i64 45),(.int .i64 90),(.int .i64 90)] ?_;clear HW;intro g50 ahv HW)|((with_reducible refine gq 22 rfl ?_);refine gl (some 52) Tryz.func22 #[(.pointer (some ⟨g,0,none⟩)),(.int .i64 7)] ?_;with_reducible refine(jc 7 hR (HW.out.under hR hB0 kQ.out) (HW.out.at 3 rfl) F9 Fa (by omega) (by omega)).mono ?_;rintro e a2L ⟨aqf,aFG,aFH,rfl,ahw,ahx,iI⟩;refine⟨_,rfl,?_⟩;refine Br HW 3 iI rfl ?_;clear HW iI;intro HW aax aay aA0;have aFI:=eq_true ahw;have aFJ:=eq_true ahx)|((with_reducible refine gd 54 rfl ?_);refine lli HW 0 aqf 7 (by omega) (by omega) Tryz.underlying3 ?_;intro aT7)|((with_reducible refine gt 99 4 rfl ?_);refine iC HW 1 ?_;clear HW;intro aaz HW))
       refine kP HW 1 Tryz.underlying99 ?_
       exact⟨_,_,_,_,rfl,⟨HW.out.ts,HW.out.at 3 rfl,aax,aay,by omega⟩,⟨_,_,_,_,_,rfl,(by decide),(by decide)⟩⟩
      ·skip
       have a2K:((sd.size:Int)==0)=false:=beq_eq_false_iff_ne.mpr c139
       have aqe:((sd.size:Int) != 0)=true:=bne_iff_ne.mpr c139
       go_wp2_with (first|((with_reducible refine gd 50 rfl ?_);refine MC (N:=50) (t:=3) (m:=7) HW [(.int .i64 1),(.int .i64 3),(.int .i64 7),(.int .i64 20),(.int .i64 45),(.int .i64 90),(.int .i64 90)] ?_;clear HW;intro g50 ahy HW)|((with_reducible refine gq 22 rfl ?_);refine gl (some 52) Tryz.func22 #[(.pointer (some ⟨g,0,none⟩)),(.int .i64 7)] ?_;with_reducible refine(jc 7 hR (HW.out.under hR hB0 kQ.out) (HW.out.at 3 rfl) F9 Fa (by omega) (by omega)).mono ?_;rintro e ahz ⟨aqg,aFK,aFL,rfl,ahA,ahB,iI⟩;refine⟨_,rfl,?_⟩;refine Br HW 3 iI rfl ?_;clear HW iI;intro HW aaA aaB aA1;have aFM:=eq_true ahA;have aFN:=eq_true ahB)|((with_reducible refine gd 54 rfl ?_);refine lli HW 0 aqg 7 (by omega) (by omega) Tryz.underlying3 ?_;intro aT8)|((with_reducible refine gt 99 4 rfl ?_);refine iC HW 1 ?_;clear HW;intro aaC HW))
       refine kP HW 1 Tryz.underlying99 ?_
       exact⟨_,_,_,_,rfl,⟨HW.out.ts,HW.out.at 3 rfl,aaA,aaB,by omega⟩,⟨_,_,_,_,_,rfl,(by decide),(by decide)⟩⟩
   ·skip
    have WK:(nE==2)=false:=beq_eq_false_iff_ne.mpr c117
    have aOU:(nE != 2)=true:=bne_iff_ne.mpr c117
    go_upto_if 31 with(fail)
    by_cases ahC:nE=3
    ·skip
     subst ahC
     go_wp2_with (first|((with_reducible refine gt 99 4 rfl ?_);refine iC HW 0 ?_;clear HW;intro Yj HW))
     refine kP HW 0 Tryz.underlying99 ?_
     exact⟨_,_,_,_,rfl,⟨HW.out.ts,HW.out.at 2 rfl,sF,sG,by omega⟩,⟨_,_,_,_,_,rfl,(by decide),(by decide)⟩⟩
    ·skip
     have aOV:(nE==3)=false:=beq_eq_false_iff_ne.mpr ahC
     have aOW:(nE != 3)=true:=bne_iff_ne.mpr ahC
     go_upto_if 31 with(fail)
     by_cases c152:nE=4
     ·skip
      subst c152
      go_wp2_with (first|((with_reducible refine gt 99 4 rfl ?_);refine iC HW 0 ?_;clear HW;intro aaD HW))
      refine kP HW 0 Tryz.underlying99 ?_
      exact⟨_,_,_,_,rfl,⟨HW.out.ts,HW.out.at 2 rfl,sF,sG,by omega⟩,⟨_,_,_,_,_,rfl,(by decide),(by decide)⟩⟩
     ·skip
      have aOX:(nE==4)=false:=beq_eq_false_iff_ne.mpr c152
      have aOY:(nE != 4)=true:=bne_iff_ne.mpr c152
      go_upto_if 35 with(fail)
      by_cases c154:nE=5
      ·skip
       subst c154
       go_wp2_with (first|((with_reducible refine gt 99 4 rfl ?_);refine iC HW 0 ?_;clear HW;intro aaE HW))
       refine kP HW 0 Tryz.underlying99 ?_
       exact⟨_,_,_,_,rfl,⟨HW.out.ts,HW.out.at 2 rfl,sF,sG,by omega⟩,⟨_,_,_,_,_,rfl,(by decide),(by decide)⟩⟩
      ·skip
       have aOZ:(nE==5)=false:=beq_eq_false_iff_ne.mpr c154
       have aP0:(nE != 5)=true:=bne_iff_ne.mpr c154
       go_upto_if 35 with(fail)
       by_cases c156:nE=6
       ·skip
        subst c156
        go_wp2_with (first|((with_reducible refine gt 99 4 rfl ?_);refine iC HW 0 ?_;clear HW;intro aqh HW))
        refine kP HW 0 Tryz.underlying99 ?_
        exact⟨_,_,_,_,rfl,⟨HW.out.ts,HW.out.at 2 rfl,sF,sG,by omega⟩,⟨_,_,_,_,_,rfl,(by decide),(by decide)⟩⟩
       ·skip
        have aP1:(nE==6)=false:=beq_eq_false_iff_ne.mpr c156
        have aP2:(nE != 6)=true:=bne_iff_ne.mpr c156
        go_upto_if 44 with(first|((with_reducible refine gq 22 rfl ?_);refine gl (some 40) Tryz.func22 #[(.pointer (some ⟨g,0,none⟩)),(.int .i64 2)] ?_;with_reducible refine(jc 2 hR (HW.out.under hR hB0 kQ.out) (HW.out.at 2 rfl) sF sG (by omega) (by omega)).mono ?_;rintro e aqi ⟨aP3,aFO,aFP,rfl,ahD,ahE,iI⟩;refine⟨_,rfl,?_⟩;refine Br HW 2 iI rfl ?_;clear HW iI;intro HW Fb Fe aA2;have aFQ:=eq_true ahD;have aFR:=eq_true ahE)|((with_reducible refine gd 42 rfl ?_);refine lls HW 1 22 _ Tryz.underlying9 ?_))
        by_cases c160:(su.size:Int)=0
        ·skip
         have aqj:((su.size:Int)==0)=true:=beq_iff_eq.mpr c160
         have aqk:((su.size:Int) != 0)=false:=bne_eq_false_iff_eq.mpr c160
         have aP4:=ah.mk c160
         clear c160
         go_upto_if 48 with(first|((with_reducible refine gd 46 rfl ?_);refine lls HW 1 23 _ Tryz.underlying9 ?_))
         by_cases Yk:(sd.size:Int)=0
         ·skip
          have aql:((sd.size:Int)==0)=true:=beq_iff_eq.mpr Yk
          have aqm:((sd.size:Int) != 0)=false:=bne_eq_false_iff_eq.mpr Yk
          have aP5:=ah.mk Yk
          clear Yk
          go_wp2_with (first|((with_reducible refine gd 50 rfl ?_);refine MC (N:=50) (t:=3) (m:=7) HW [(.int .i64 1),(.int .i64 3),(.int .i64 7),(.int .i64 20),(.int .i64 45),(.int .i64 90),(.int .i64 90)] ?_;clear HW;intro g50 aFS HW)|((with_reducible refine gq 22 rfl ?_);refine gl (some 52) Tryz.func22 #[(.pointer (some ⟨g,0,none⟩)),(.int .i64 7)] ?_;with_reducible refine(jc 7 hR (HW.out.under hR hB0 kQ.out) (HW.out.at 3 rfl) Fb Fe (by omega) (by omega)).mono ?_;rintro e aFT ⟨aqn,aFU,aFV,rfl,ahF,ahG,iI⟩;refine⟨_,rfl,?_⟩;refine Br HW 3 iI rfl ?_;clear HW iI;intro HW aaF aaG aA3;have aFW:=eq_true ahF;have aFX:=eq_true ahG)|((with_reducible refine gd 54 rfl ?_);refine lli HW 0 aqn 7 (by omega) (by omega) Tryz.underlying3 ?_;intro aT9)|((with_reducible refine gt 99 4 rfl ?_);refine iC HW 1 ?_;clear HW;intro aTa HW))
          refine kP HW 1 Tryz.underlying99 ?_
          exact⟨_,_,_,_,rfl,⟨HW.out.ts,HW.out.at 3 rfl,aaF,aaG,by omega⟩,⟨_,_,_,_,_,rfl,(by decide),(by decide)⟩⟩
         ·skip
          have aql:((sd.size:Int)==0)=false:=beq_eq_false_iff_ne.mpr Yk
          have aqm:((sd.size:Int) != 0)=true:=bne_iff_ne.mpr Yk
          go_wp2_with (first|((with_reducible refine gd 50 rfl ?_);refine MC (N:=50) (t:=3) (m:=7) HW [(.int .i64 1),(.int .i64 3),(.int .i64 7),(.int .i64 20),(.int .i64 45),(.int .i64 90),(.int .i64 90)] ?_;clear HW;intro g50 aTb HW)|((with_reducible refine gq 22 rfl ?_);refine gl (some 52) Tryz.func22 #[(.pointer (some ⟨g,0,none⟩)),(.int .i64 7)] ?_;with_reducible refine(jc 7 hR (HW.out.under hR hB0 kQ.out) (HW.out.at 3 rfl) Fb Fe (by omega) (by omega)).mono ?_;rintro e aTc ⟨aqo,aFY,aFZ,rfl,ahH,ahI,iI⟩;refine⟨_,rfl,?_⟩;refine Br HW 3 iI rfl ?_;clear HW iI;intro HW aaH aaI aA4;have aG0:=eq_true ahH;have aG1:=eq_true ahI)|((with_reducible refine gd 54 rfl ?_);refine lli HW 0 aqo 7 (by omega) (by omega) Tryz.underlying3 ?_;intro aTd)|((with_reducible refine gt 99 4 rfl ?_);refine iC HW 1 ?_;clear HW;intro aTe HW))
          refine kP HW 1 Tryz.underlying99 ?_
          exact⟨_,_,_,_,rfl,⟨HW.out.ts,HW.out.at 3 rfl,aaH,aaI,by omega⟩,⟨_,_,_,_,_,rfl,(by decide),(by decide)⟩⟩
        ·skip
         have aqj:((su.size:Int)==0)=false:=beq_eq_false_iff_ne.mpr c160
         have aqk:((su.size:Int) != 0)=true:=bne_iff_ne.mpr c160
         go_upto_if 48 with(first|((with_reducible refine gd 46 rfl ?_);refine lls HW 1 23 _ Tryz.underlying9 ?_))
         by_cases Yl:(sd.size:Int)=0
         ·skip
          have aqp:((sd.size:Int)==0)=true:=beq_iff_eq.mpr Yl
          have aqr:((sd.size:Int) != 0)=false:=bne_eq_false_iff_eq.mpr Yl
          have aP6:=ah.mk Yl
          clear Yl
          go_wp2_with (first|((with_reducible refine gd 50 rfl ?_);refine MC (N:=50) (t:=3) (m:=7) HW [(.int .i64 1),(.int .i64 3),(.int .i64 7),(.int .i64 20),(.int .i64 45),(.int .i64 90),(.int .i64 90)] ?_;clear HW;intro g50 aTf HW)|((with_reducible refine gq 22 rfl ?_);refine gl (some 52) Tryz.func22 #[(.pointer (some ⟨g,0,none⟩)),(.int .i64 7)] ?_;with_reducible refine(jc 7 hR (HW.out.under hR hB0 kQ.out) (HW.out.at 3 rfl) Fb Fe (by omega) (by omega)).mono ?_;rintro e aTg ⟨aqs,aG2,aG3,rfl,ahJ,ahK,iI⟩;refine⟨_,rfl,?_⟩;refine Br HW 3 iI rfl ?_;clear HW iI;intro HW aaJ aaK aA5;have aG4:=eq_true ahJ;have aG5:=eq_true ahK)|((with_reducible refine gd 54 rfl ?_);refine lli HW 0 aqs 7 (by omega) (by omega) Tryz.underlying3 ?_;intro aTh)|((with_reducible refine gt 99 4 rfl ?_);refine iC HW 1 ?_;clear HW;intro aTi HW))
          refine kP HW 1 Tryz.underlying99 ?_
          exact⟨_,_,_,_,rfl,⟨HW.out.ts,HW.out.at 3 rfl,aaJ,aaK,by omega⟩,⟨_,_,_,_,_,rfl,(by decide),(by decide)⟩⟩
         ·skip
          have aqp:((sd.size:Int)==0)=false:=beq_eq_false_iff_ne.mpr Yl
          have aqr:((sd.size:Int) != 0)=true:=bne_iff_ne.mpr Yl
          go_wp2_with (first|((with_reducible refine gd 50 rfl ?_);refine MC (N:=50) (t:=3) (m:=7) HW [(.int .i64 1),(.int .i64 3),(.int .i64 7),(.int .i64 20),(.int .i64 45),(.int .i64 90),(.int .i64 90)] ?_;clear HW;intro g50 aTj HW)|((with_reducible refine gq 22 rfl ?_);refine gl (some 52) Tryz.func22 #[(.pointer (some ⟨g,0,none⟩)),(.int .i64 7)] ?_;with_reducible refine(jc 7 hR (HW.out.under hR hB0 kQ.out) (HW.out.at 3 rfl) Fb Fe (by omega) (by omega)).mono ?_;rintro e aTk ⟨aqt,aG6,aG7,rfl,ahL,ahM,iI⟩;refine⟨_,rfl,?_⟩;refine Br HW 3 iI rfl ?_;clear HW iI;intro HW aaL aaM aA6;have aG8:=eq_true ahL;have aG9:=eq_true ahM)|((with_reducible refine gd 54 rfl ?_);refine lli HW 0 aqt 7 (by omega) (by omega) Tryz.underlying3 ?_;intro aTl)|((with_reducible refine gt 99 4 rfl ?_);refine iC HW 1 ?_;clear HW;intro aTm HW))
          refine kP HW 1 Tryz.underlying99 ?_
          exact⟨_,_,_,_,rfl,⟨HW.out.ts,HW.out.at 3 rfl,aaL,aaM,by omega⟩,⟨_,_,_,_,_,rfl,(by decide),(by decide)⟩⟩
end Go.Proofs.YtokblgdgpnakpaaGreat.PFnEndLess
