/- FnEndLess holds: part 1 of a proof that the given program meets it (printed texts and walks of our own, made short by a program). No condition. -/
import Derived.Test.YtokblgdgpnakpaaGreatQ00
import Derived.Deep.RegionLaw
import Derived.Shelf.Small.Strs
import Derived.Shelf.Strings.Search1
import Derived.Test.YtokblgdgpnakpaaGreatProg
set_option linter.unusedVariables false
set_option linter.unusedSimpArgs false
set_option maxHeartbeats 8000000
set_option maxRecDepth 100000
namespace Go.Proofs.YtokblgdgpnakpaaGreat.Lm
open Go.RowKit Go.Proofs.YtokblgdgpnakpaaGreatW.PrintWords Go.Proofs.YtokblgdgpnakpaaGreatW.PrintLast Go.Proofs.YtokblgdgpnakpaaGreatW.PrintMore
inductive uY:World→World→Prop
 |refl (W:World):uY W W
 |alloc {W0 W:World} (h:uY W0 W) (o:Obj):uY W0 (W.alloc o)
 |drew {W0 W:World} (h:uY W0 W):uY W0 W.drew
 |drewN {W0 W:World} (h:uY W0 W) (m:Nat):uY W0 (W.drewN m)
theorem zk{W0 W:World}{g:Nat}{o:Obj}(h0:ah (W0.heap[g]?=some o))(m:uY W0 W:=by(with_reducible repeat(first|exact uY.refl _|apply uY.alloc|apply uY.drewN|apply uY.drew))):W.heap[g]?=some o:=by
 induction m with
 |refl=>exact h0.out
 |alloc _ o ih=>exact wB ih o
 |drew _ ih=>exact dn ih
 |drewN _ n ih=>exact wD ih n
theorem zr{α:Type}{d:Kd α}{e base:Nat}{ok:Nat→Prop}{v:Value}{xs:List α}{W0 W:World}(h0:ah (d.R e W0 base ok v xs))(m:uY W0 W:=by(with_reducible repeat(first|exact uY.refl _|apply uY.alloc|apply uY.drewN|apply uY.drew))):d.R e W base ok v xs:=by
 induction m with
 |refl=>exact h0.out
 |alloc _ o ih=>exact Kd.R_alloc ih o
 |drew _ ih=>exact Kd.R_drew ih
 |drewN _ n ih=>exact Kd.R_drewN ih n
theorem zc{α:Type}{d:Kd α}{A:Option Addr}{n:Nat}{xs:List α}{W0 W:World}(h0:d.C W0 A n xs)(m:uY W0 W:=by(with_reducible repeat(first|exact uY.refl _|apply uY.alloc|apply uY.drewN|apply uY.drew))):d.C W A n xs:=by
 induction m with
 |refl=>exact h0
 |alloc _ o ih=>exact Kd.C_alloc ih o
 |drew _ ih=>exact Kd.C_drew ih
 |drewN _ n ih=>exact Kd.C_drewN ih n
theorem zb{n:Nat}{w W0 W:World}(h0:ah (Below n w W0))(h:Below n w W:=by repeat(first|(with_reducible first|exact HB.out|apply dV|apply eX|apply dG|refine o8 ?_ (ah.out (by assumption)))|exact HB.out)):Below n w W:=h
theorem zh{g:Nat}{r:Option Nat}{w W0 W:World}(h0:ah (ay w W0 g r))(h:ay w W g r:=by repeat(first|(with_reducible first|exact HK.out|apply ay.set_|apply Qo|apply Gx|apply Qp|refine YC ?_ (ah.out (by assumption)) _)|exact HK.out)):ay w W g r:=h
theorem za{p:Prop}(h:p:=by first|(with_reducible assumption)|assumption):p:=h
theorem zs{p:Prop}(h:p:=by first|rfl|(simp;done)|(simp[*];done)):p:=h
theorem s1{α:Type}{xs:List α}{i:Nat}{a:α}:xs.toArray.setIfInBounds i a=(xs.set i a).toArray:=List.setIfInBounds_toArray xs i a
theorem s2{α:Type}{xs:List α}{a b:α}:(b::xs).set 0 a=a::xs:=List.set_cons_zero
theorem s3{α:Type}{xs:List α}{n:Nat}{a b:α}:(b::xs).set (n+1) a=b::xs.set n a:=List.set_cons_succ
abbrev At(p:Addr)(v:Value)(w:World):Prop:=w.cell? p=some v
abbrev ajC(P Q:World→Prop)(w:World):Prop:=P w∧Q w
theorem an{P Q:World→Prop}{w:World}(h:P w)(g:Q w):ajC P Q w:=⟨h,g⟩
theorem pM{w W:World}{p:Addr}{v:Value}(h:w.cell? p=some v)(hb:ah (Below w.heap.size w W)):W.cell? p=some v:=(hb.out.cell (World.block_lt_of_cell? w _ h)).trans h
abbrev B1(g:Nat)(x0:Value)(W:World):Prop:=W.cell? ⟨g,0,none⟩=some x0
theorem b1{W:World}{g t:Nat}{x0:Value}(h:ah (W.heap[g]?=some (.cells #[x0] t (0,0)))):B1 g x0 W:=(au h.out 0).trans rfl
theorem c1{W:World}{g t:Nat}{x0:Value}(h:ah (W.heap[g]?=some (.cells #[x0] t (0,0)))):W.cell? ⟨g,0,none⟩=some x0∧W.frozen? ⟨g,0,none⟩=false:=⟨(au h.out 0).trans rfl,ak h.out 0⟩
abbrev B2(g:Nat)(x0 x1:Value)(W:World):Prop:=W.cell? ⟨g,0,none⟩=some x0∧W.cell? ⟨g,1,none⟩=some x1
theorem b2{W:World}{g t:Nat}{x0 x1:Value}(h:ah (W.heap[g]?=some (.cells #[x0,x1] t (0,0)))):B2 g x0 x1 W:=⟨(au h.out 0).trans rfl,(au h.out 1).trans rfl⟩
theorem c2{W:World}{g t:Nat}{x0 x1:Value}(h:ah (W.heap[g]?=some (.cells #[x0,x1] t (0,0)))):W.cell? ⟨g,0,none⟩=some x0∧W.cell? ⟨g,1,none⟩=some x1∧W.frozen? ⟨g,0,none⟩=false∧W.frozen? ⟨g,1,none⟩=false:=⟨(au h.out 0).trans rfl,(au h.out 1).trans rfl,ak h.out 0,ak h.out 1⟩
abbrev B3(g:Nat)(x0 x1 x2:Value)(W:World):Prop:=W.cell? ⟨g,0,none⟩=some x0∧W.cell? ⟨g,1,none⟩=some x1∧W.cell? ⟨g,2,none⟩=some x2
theorem b3{W:World}{g t:Nat}{x0 x1 x2:Value}(h:ah (W.heap[g]?=some (.cells #[x0,x1,x2] t (0,0)))):B3 g x0 x1 x2 W:=⟨(au h.out 0).trans rfl,(au h.out 1).trans rfl,(au h.out 2).trans rfl⟩
theorem c3{W:World}{g t:Nat}{x0 x1 x2:Value}(h:ah (W.heap[g]?=some (.cells #[x0,x1,x2] t (0,0)))):W.cell? ⟨g,0,none⟩=some x0∧W.cell? ⟨g,1,none⟩=some x1∧W.cell? ⟨g,2,none⟩=some x2∧W.frozen? ⟨g,0,none⟩=false∧W.frozen? ⟨g,1,none⟩=false∧W.frozen? ⟨g,2,none⟩=false:=⟨(au h.out 0).trans rfl,(au h.out 1).trans rfl,(au h.out 2).trans rfl,ak h.out 0,ak h.out 1,ak h.out 2⟩
abbrev B4(g:Nat)(x0 x1 x2 x3:Value)(W:World):Prop:=W.cell? ⟨g,0,none⟩=some x0∧W.cell? ⟨g,1,none⟩=some x1∧W.cell? ⟨g,2,none⟩=some x2∧W.cell? ⟨g,3,none⟩=some x3
theorem b4{W:World}{g t:Nat}{x0 x1 x2 x3:Value}(h:ah (W.heap[g]?=some (.cells #[x0,x1,x2,x3] t (0,0)))):B4 g x0 x1 x2 x3 W:=⟨(au h.out 0).trans rfl,(au h.out 1).trans rfl,(au h.out 2).trans rfl,(au h.out 3).trans rfl⟩
theorem c4{W:World}{g t:Nat}{x0 x1 x2 x3:Value}(h:ah (W.heap[g]?=some (.cells #[x0,x1,x2,x3] t (0,0)))):W.cell? ⟨g,0,none⟩=some x0∧W.cell? ⟨g,1,none⟩=some x1∧W.cell? ⟨g,2,none⟩=some x2∧W.cell? ⟨g,3,none⟩=some x3∧W.frozen? ⟨g,0,none⟩=false∧W.frozen? ⟨g,1,none⟩=false∧W.frozen? ⟨g,2,none⟩=false∧W.frozen? ⟨g,3,none⟩=false:=⟨(au h.out 0).trans rfl,(au h.out 1).trans rfl,(au h.out 2).trans rfl,(au h.out 3).trans rfl,ak h.out 0,ak h.out 1,ak h.out 2,ak h.out 3⟩
abbrev B5(g:Nat)(x0 x1 x2 x3 x4:Value)(W:World):Prop:=W.cell? ⟨g,0,none⟩=some x0∧W.cell? ⟨g,1,none⟩=some x1∧W.cell? ⟨g,2,none⟩=some x2∧W.cell? ⟨g,3,none⟩=some x3∧W.cell? ⟨g,4,none⟩=some x4
theorem c5{W:World}{g t:Nat}{x0 x1 x2 x3 x4:Value}(h:ah (W.heap[g]?=some (.cells #[x0,x1,x2,x3,x4] t (0,0)))):W.cell? ⟨g,0,none⟩=some x0∧W.cell? ⟨g,1,none⟩=some x1∧W.cell? ⟨g,2,none⟩=some x2∧W.cell? ⟨g,3,none⟩=some x3∧W.cell? ⟨g,4,none⟩=some x4∧W.frozen? ⟨g,0,none⟩=false∧W.frozen? ⟨g,1,none⟩=false∧W.frozen? ⟨g,2,none⟩=false∧W.frozen? ⟨g,3,none⟩=false∧W.frozen? ⟨g,4,none⟩=false:=⟨(au h.out 0).trans rfl,(au h.out 1).trans rfl,(au h.out 2).trans rfl,(au h.out 3).trans rfl,(au h.out 4).trans rfl,ak h.out 0,ak h.out 1,ak h.out 2,ak h.out 3,ak h.out 4⟩
abbrev B6(g:Nat)(x0 x1 x2 x3 x4 x5:Value)(W:World):Prop:=W.cell? ⟨g,0,none⟩=some x0∧W.cell? ⟨g,1,none⟩=some x1∧W.cell? ⟨g,2,none⟩=some x2∧W.cell? ⟨g,3,none⟩=some x3∧W.cell? ⟨g,4,none⟩=some x4∧W.cell? ⟨g,5,none⟩=some x5
theorem c6{W:World}{g t:Nat}{x0 x1 x2 x3 x4 x5:Value}(h:ah (W.heap[g]?=some (.cells #[x0,x1,x2,x3,x4,x5] t (0,0)))):W.cell? ⟨g,0,none⟩=some x0∧W.cell? ⟨g,1,none⟩=some x1∧W.cell? ⟨g,2,none⟩=some x2∧W.cell? ⟨g,3,none⟩=some x3∧W.cell? ⟨g,4,none⟩=some x4∧W.cell? ⟨g,5,none⟩=some x5∧W.frozen? ⟨g,0,none⟩=false∧W.frozen? ⟨g,1,none⟩=false∧W.frozen? ⟨g,2,none⟩=false∧W.frozen? ⟨g,3,none⟩=false∧W.frozen? ⟨g,4,none⟩=false∧W.frozen? ⟨g,5,none⟩=false:=⟨(au h.out 0).trans rfl,(au h.out 1).trans rfl,(au h.out 2).trans rfl,(au h.out 3).trans rfl,(au h.out 4).trans rfl,(au h.out 5).trans rfl,ak h.out 0,ak h.out 1,ak h.out 2,ak h.out 3,ak h.out 4,ak h.out 5⟩
abbrev B7(g:Nat)(x0 x1 x2 x3 x4 x5 x6:Value)(W:World):Prop:=W.cell? ⟨g,0,none⟩=some x0∧W.cell? ⟨g,1,none⟩=some x1∧W.cell? ⟨g,2,none⟩=some x2∧W.cell? ⟨g,3,none⟩=some x3∧W.cell? ⟨g,4,none⟩=some x4∧W.cell? ⟨g,5,none⟩=some x5∧W.cell? ⟨g,6,none⟩=some x6
theorem c7{W:World}{g t:Nat}{x0 x1 x2 x3 x4 x5 x6:Value}(h:ah (W.heap[g]?=some (.cells #[x0,x1,x2,x3,x4,x5,x6] t (0,0)))):W.cell? ⟨g,0,none⟩=some x0∧W.cell? ⟨g,1,none⟩=some x1∧W.cell? ⟨g,2,none⟩=some x2∧W.cell? ⟨g,3,none⟩=some x3∧W.cell? ⟨g,4,none⟩=some x4∧W.cell? ⟨g,5,none⟩=some x5∧W.cell? ⟨g,6,none⟩=some x6∧W.frozen? ⟨g,0,none⟩=false∧W.frozen? ⟨g,1,none⟩=false∧W.frozen? ⟨g,2,none⟩=false∧W.frozen? ⟨g,3,none⟩=false∧W.frozen? ⟨g,4,none⟩=false∧W.frozen? ⟨g,5,none⟩=false∧W.frozen? ⟨g,6,none⟩=false:=⟨(au h.out 0).trans rfl,(au h.out 1).trans rfl,(au h.out 2).trans rfl,(au h.out 3).trans rfl,(au h.out 4).trans rfl,(au h.out 5).trans rfl,(au h.out 6).trans rfl,ak h.out 0,ak h.out 1,ak h.out 2,ak h.out 3,ak h.out 4,ak h.out 5,ak h.out 6⟩
abbrev B8(g:Nat)(x0 x1 x2 x3 x4 x5 x6 x7:Value)(W:World):Prop:=W.cell? ⟨g,0,none⟩=some x0∧W.cell? ⟨g,1,none⟩=some x1∧W.cell? ⟨g,2,none⟩=some x2∧W.cell? ⟨g,3,none⟩=some x3∧W.cell? ⟨g,4,none⟩=some x4∧W.cell? ⟨g,5,none⟩=some x5∧W.cell? ⟨g,6,none⟩=some x6∧W.cell? ⟨g,7,none⟩=some x7
theorem c8{W:World}{g t:Nat}{x0 x1 x2 x3 x4 x5 x6 x7:Value}(h:ah (W.heap[g]?=some (.cells #[x0,x1,x2,x3,x4,x5,x6,x7] t (0,0)))):W.cell? ⟨g,0,none⟩=some x0∧W.cell? ⟨g,1,none⟩=some x1∧W.cell? ⟨g,2,none⟩=some x2∧W.cell? ⟨g,3,none⟩=some x3∧W.cell? ⟨g,4,none⟩=some x4∧W.cell? ⟨g,5,none⟩=some x5∧W.cell? ⟨g,6,none⟩=some x6∧W.cell? ⟨g,7,none⟩=some x7∧W.frozen? ⟨g,0,none⟩=false∧W.frozen? ⟨g,1,none⟩=false∧W.frozen? ⟨g,2,none⟩=false∧W.frozen? ⟨g,3,none⟩=false∧W.frozen? ⟨g,4,none⟩=false∧W.frozen? ⟨g,5,none⟩=false∧W.frozen? ⟨g,6,none⟩=false∧W.frozen? ⟨g,7,none⟩=false:=⟨(au h.out 0).trans rfl,(au h.out 1).trans rfl,(au h.out 2).trans rfl,(au h.out 3).trans rfl,(au h.out 4).trans rfl,(au h.out 5).trans rfl,(au h.out 6).trans rfl,(au h.out 7).trans rfl,ak h.out 0,ak h.out 1,ak h.out 2,ak h.out 3,ak h.out 4,ak h.out 5,ak h.out 6,ak h.out 7⟩
abbrev B11(g:Nat)(x0 x1 x2 x3 x4 x5 x6 x7 x8 x9 x10:Value)(W:World):Prop:=W.cell? ⟨g,0,none⟩=some x0∧W.cell? ⟨g,1,none⟩=some x1∧W.cell? ⟨g,2,none⟩=some x2∧W.cell? ⟨g,3,none⟩=some x3∧W.cell? ⟨g,4,none⟩=some x4∧W.cell? ⟨g,5,none⟩=some x5∧W.cell? ⟨g,6,none⟩=some x6∧W.cell? ⟨g,7,none⟩=some x7∧W.cell? ⟨g,8,none⟩=some x8∧W.cell? ⟨g,9,none⟩=some x9∧W.cell? ⟨g,10,none⟩=some x10
theorem c11{W:World}{g t:Nat}{x0 x1 x2 x3 x4 x5 x6 x7 x8 x9 x10:Value}(h:ah (W.heap[g]?=some (.cells #[x0,x1,x2,x3,x4,x5,x6,x7,x8,x9,x10] t (0,0)))):W.cell? ⟨g,0,none⟩=some x0∧W.cell? ⟨g,1,none⟩=some x1∧W.cell? ⟨g,2,none⟩=some x2∧W.cell? ⟨g,3,none⟩=some x3∧W.cell? ⟨g,4,none⟩=some x4∧W.cell? ⟨g,5,none⟩=some x5∧W.cell? ⟨g,6,none⟩=some x6∧W.cell? ⟨g,7,none⟩=some x7∧W.cell? ⟨g,8,none⟩=some x8∧W.cell? ⟨g,9,none⟩=some x9∧W.cell? ⟨g,10,none⟩=some x10∧W.frozen? ⟨g,0,none⟩=false∧W.frozen? ⟨g,1,none⟩=false∧W.frozen? ⟨g,2,none⟩=false∧W.frozen? ⟨g,3,none⟩=false∧W.frozen? ⟨g,4,none⟩=false∧W.frozen? ⟨g,5,none⟩=false∧W.frozen? ⟨g,6,none⟩=false∧W.frozen? ⟨g,7,none⟩=false∧W.frozen? ⟨g,8,none⟩=false∧W.frozen? ⟨g,9,none⟩=false∧W.frozen? ⟨g,10,none⟩=false:=⟨(au h.out 0).trans rfl,(au h.out 1).trans rfl,(au h.out 2).trans rfl,(au h.out 3).trans rfl,(au h.out 4).trans rfl,(au h.out 5).trans rfl,(au h.out 6).trans rfl,(au h.out 7).trans rfl,(au h.out 8).trans rfl,(au h.out 9).trans rfl,(au h.out 10).trans rfl,ak h.out 0,ak h.out 1,ak h.out 2,ak h.out 3,ak h.out 4,ak h.out 5,ak h.out 6,ak h.out 7,ak h.out 8,ak h.out 9,ak h.out 10⟩
abbrev B12(g:Nat)(x0 x1 x2 x3 x4 x5 x6 x7 x8 x9 x10 ql:Value)(W:World):Prop:=W.cell? ⟨g,0,none⟩=some x0∧W.cell? ⟨g,1,none⟩=some x1∧W.cell? ⟨g,2,none⟩=some x2∧W.cell? ⟨g,3,none⟩=some x3∧W.cell? ⟨g,4,none⟩=some x4∧W.cell? ⟨g,5,none⟩=some x5∧W.cell? ⟨g,6,none⟩=some x6∧W.cell? ⟨g,7,none⟩=some x7∧W.cell? ⟨g,8,none⟩=some x8∧W.cell? ⟨g,9,none⟩=some x9∧W.cell? ⟨g,10,none⟩=some x10∧W.cell? ⟨g,11,none⟩=some ql
theorem c12{W:World}{g t:Nat}{x0 x1 x2 x3 x4 x5 x6 x7 x8 x9 x10 ql:Value}(h:ah (W.heap[g]?=some (.cells #[x0,x1,x2,x3,x4,x5,x6,x7,x8,x9,x10,ql] t (0,0)))):W.cell? ⟨g,0,none⟩=some x0∧W.cell? ⟨g,1,none⟩=some x1∧W.cell? ⟨g,2,none⟩=some x2∧W.cell? ⟨g,3,none⟩=some x3∧W.cell? ⟨g,4,none⟩=some x4∧W.cell? ⟨g,5,none⟩=some x5∧W.cell? ⟨g,6,none⟩=some x6∧W.cell? ⟨g,7,none⟩=some x7∧W.cell? ⟨g,8,none⟩=some x8∧W.cell? ⟨g,9,none⟩=some x9∧W.cell? ⟨g,10,none⟩=some x10∧W.cell? ⟨g,11,none⟩=some ql∧W.frozen? ⟨g,0,none⟩=false∧W.frozen? ⟨g,1,none⟩=false∧W.frozen? ⟨g,2,none⟩=false∧W.frozen? ⟨g,3,none⟩=false∧W.frozen? ⟨g,4,none⟩=false∧W.frozen? ⟨g,5,none⟩=false∧W.frozen? ⟨g,6,none⟩=false∧W.frozen? ⟨g,7,none⟩=false∧W.frozen? ⟨g,8,none⟩=false∧W.frozen? ⟨g,9,none⟩=false∧W.frozen? ⟨g,10,none⟩=false∧W.frozen? ⟨g,11,none⟩=false:=⟨(au h.out 0).trans rfl,(au h.out 1).trans rfl,(au h.out 2).trans rfl,(au h.out 3).trans rfl,(au h.out 4).trans rfl,(au h.out 5).trans rfl,(au h.out 6).trans rfl,(au h.out 7).trans rfl,(au h.out 8).trans rfl,(au h.out 9).trans rfl,(au h.out 10).trans rfl,(au h.out 11).trans rfl,ak h.out 0,ak h.out 1,ak h.out 2,ak h.out 3,ak h.out 4,ak h.out 5,ak h.out 6,ak h.out 7,ak h.out 8,ak h.out 9,ak h.out 10,ak h.out 11⟩
abbrev B22(g:Nat)(x0 x1 x2 x3 x4 x5 x6 x7 x8 x9 x10 ql x12 x13 x14 x15 x16 x17 x18 x19 x20 x21:Value)(W:World):Prop:=W.cell? ⟨g,0,none⟩=some x0∧W.cell? ⟨g,1,none⟩=some x1∧W.cell? ⟨g,2,none⟩=some x2∧W.cell? ⟨g,3,none⟩=some x3∧W.cell? ⟨g,4,none⟩=some x4∧W.cell? ⟨g,5,none⟩=some x5∧W.cell? ⟨g,6,none⟩=some x6∧W.cell? ⟨g,7,none⟩=some x7∧W.cell? ⟨g,8,none⟩=some x8∧W.cell? ⟨g,9,none⟩=some x9∧W.cell? ⟨g,10,none⟩=some x10∧W.cell? ⟨g,11,none⟩=some ql∧W.cell? ⟨g,12,none⟩=some x12∧W.cell? ⟨g,13,none⟩=some x13∧W.cell? ⟨g,14,none⟩=some x14∧W.cell? ⟨g,15,none⟩=some x15∧W.cell? ⟨g,16,none⟩=some x16∧W.cell? ⟨g,17,none⟩=some x17∧W.cell? ⟨g,18,none⟩=some x18∧W.cell? ⟨g,19,none⟩=some x19∧W.cell? ⟨g,20,none⟩=some x20∧W.cell? ⟨g,21,none⟩=some x21
theorem LX{W:World}{g t:Nat}{x0 x1 x2 x3 x4 x5 x6 x7 x8 x9 x10 ql x12 x13 x14 x15 x16 x17 x18 x19 x20 x21:Value}(h:ah (W.heap[g]?=some (.cells #[x0,x1,x2,x3,x4,x5,x6,x7,x8,x9,x10,ql,x12,x13,x14,x15,x16,x17,x18,x19,x20,x21] t (0,0)))):W.cell? ⟨g,0,none⟩=some x0∧W.cell? ⟨g,1,none⟩=some x1∧W.cell? ⟨g,2,none⟩=some x2∧W.cell? ⟨g,3,none⟩=some x3∧W.cell? ⟨g,4,none⟩=some x4∧W.cell? ⟨g,5,none⟩=some x5∧W.cell? ⟨g,6,none⟩=some x6∧W.cell? ⟨g,7,none⟩=some x7∧W.cell? ⟨g,8,none⟩=some x8∧W.cell? ⟨g,9,none⟩=some x9∧W.cell? ⟨g,10,none⟩=some x10∧W.cell? ⟨g,11,none⟩=some ql∧W.cell? ⟨g,12,none⟩=some x12∧W.cell? ⟨g,13,none⟩=some x13∧W.cell? ⟨g,14,none⟩=some x14∧W.cell? ⟨g,15,none⟩=some x15∧W.cell? ⟨g,16,none⟩=some x16∧W.cell? ⟨g,17,none⟩=some x17∧W.cell? ⟨g,18,none⟩=some x18∧W.cell? ⟨g,19,none⟩=some x19∧W.cell? ⟨g,20,none⟩=some x20∧W.cell? ⟨g,21,none⟩=some x21∧W.frozen? ⟨g,0,none⟩=false∧W.frozen? ⟨g,1,none⟩=false∧W.frozen? ⟨g,2,none⟩=false∧W.frozen? ⟨g,3,none⟩=false∧W.frozen? ⟨g,4,none⟩=false∧W.frozen? ⟨g,5,none⟩=false∧W.frozen? ⟨g,6,none⟩=false∧W.frozen? ⟨g,7,none⟩=false∧W.frozen? ⟨g,8,none⟩=false∧W.frozen? ⟨g,9,none⟩=false∧W.frozen? ⟨g,10,none⟩=false∧W.frozen? ⟨g,11,none⟩=false∧W.frozen? ⟨g,12,none⟩=false∧W.frozen? ⟨g,13,none⟩=false∧W.frozen? ⟨g,14,none⟩=false∧W.frozen? ⟨g,15,none⟩=false∧W.frozen? ⟨g,16,none⟩=false∧W.frozen? ⟨g,17,none⟩=false∧W.frozen? ⟨g,18,none⟩=false∧W.frozen? ⟨g,19,none⟩=false∧W.frozen? ⟨g,20,none⟩=false∧W.frozen? ⟨g,21,none⟩=false:=⟨(au h.out 0).trans rfl,(au h.out 1).trans rfl,(au h.out 2).trans rfl,(au h.out 3).trans rfl,(au h.out 4).trans rfl,(au h.out 5).trans rfl,(au h.out 6).trans rfl,(au h.out 7).trans rfl,(au h.out 8).trans rfl,(au h.out 9).trans rfl,(au h.out 10).trans rfl,(au h.out 11).trans rfl,(au h.out 12).trans rfl,(au h.out 13).trans rfl,(au h.out 14).trans rfl,(au h.out 15).trans rfl,(au h.out 16).trans rfl,(au h.out 17).trans rfl,(au h.out 18).trans rfl,(au h.out 19).trans rfl,(au h.out 20).trans rfl,(au h.out 21).trans rfl,ak h.out 0,ak h.out 1,ak h.out 2,ak h.out 3,ak h.out 4,ak h.out 5,ak h.out 6,ak h.out 7,ak h.out 8,ak h.out 9,ak h.out 10,ak h.out 11,ak h.out 12,ak h.out 13,ak h.out 14,ak h.out 15,ak h.out 16,ak h.out 17,ak h.out 18,ak h.out 19,ak h.out 20,ak h.out 21⟩
abbrev B24(g:Nat)(x0 x1 x2 x3 x4 x5 x6 x7 x8 x9 x10 ql x12 x13 x14 x15 x16 x17 x18 x19 x20 x21 x22 x23:Value)(W:World):Prop:=W.cell? ⟨g,0,none⟩=some x0∧W.cell? ⟨g,1,none⟩=some x1∧W.cell? ⟨g,2,none⟩=some x2∧W.cell? ⟨g,3,none⟩=some x3∧W.cell? ⟨g,4,none⟩=some x4∧W.cell? ⟨g,5,none⟩=some x5∧W.cell? ⟨g,6,none⟩=some x6∧W.cell? ⟨g,7,none⟩=some x7∧W.cell? ⟨g,8,none⟩=some x8∧W.cell? ⟨g,9,none⟩=some x9∧W.cell? ⟨g,10,none⟩=some x10∧W.cell? ⟨g,11,none⟩=some ql∧W.cell? ⟨g,12,none⟩=some x12∧W.cell? ⟨g,13,none⟩=some x13∧W.cell? ⟨g,14,none⟩=some x14∧W.cell? ⟨g,15,none⟩=some x15∧W.cell? ⟨g,16,none⟩=some x16∧W.cell? ⟨g,17,none⟩=some x17∧W.cell? ⟨g,18,none⟩=some x18∧W.cell? ⟨g,19,none⟩=some x19∧W.cell? ⟨g,20,none⟩=some x20∧W.cell? ⟨g,21,none⟩=some x21∧W.cell? ⟨g,22,none⟩=some x22∧W.cell? ⟨g,23,none⟩=some x23
theorem c24{W:World}{g t:Nat}{x0 x1 x2 x3 x4 x5 x6 x7 x8 x9 x10 ql x12 x13 x14 x15 x16 x17 x18 x19 x20 x21 x22 x23:Value}(h:ah (W.heap[g]?=some (.cells #[x0,x1,x2,x3,x4,x5,x6,x7,x8,x9,x10,ql,x12,x13,x14,x15,x16,x17,x18,x19,x20,x21,x22,x23] t (0,0)))):W.cell? ⟨g,0,none⟩=some x0∧W.cell? ⟨g,1,none⟩=some x1∧W.cell? ⟨g,2,none⟩=some x2∧W.cell? ⟨g,3,none⟩=some x3∧W.cell? ⟨g,4,none⟩=some x4∧W.cell? ⟨g,5,none⟩=some x5∧W.cell? ⟨g,6,none⟩=some x6∧W.cell? ⟨g,7,none⟩=some x7∧W.cell? ⟨g,8,none⟩=some x8∧W.cell? ⟨g,9,none⟩=some x9∧W.cell? ⟨g,10,none⟩=some x10∧W.cell? ⟨g,11,none⟩=some ql∧W.cell? ⟨g,12,none⟩=some x12∧W.cell? ⟨g,13,none⟩=some x13∧W.cell? ⟨g,14,none⟩=some x14∧W.cell? ⟨g,15,none⟩=some x15∧W.cell? ⟨g,16,none⟩=some x16∧W.cell? ⟨g,17,none⟩=some x17∧W.cell? ⟨g,18,none⟩=some x18∧W.cell? ⟨g,19,none⟩=some x19∧W.cell? ⟨g,20,none⟩=some x20∧W.cell? ⟨g,21,none⟩=some x21∧W.cell? ⟨g,22,none⟩=some x22∧W.cell? ⟨g,23,none⟩=some x23∧W.frozen? ⟨g,0,none⟩=false∧W.frozen? ⟨g,1,none⟩=false∧W.frozen? ⟨g,2,none⟩=false∧W.frozen? ⟨g,3,none⟩=false∧W.frozen? ⟨g,4,none⟩=false∧W.frozen? ⟨g,5,none⟩=false∧W.frozen? ⟨g,6,none⟩=false∧W.frozen? ⟨g,7,none⟩=false∧W.frozen? ⟨g,8,none⟩=false∧W.frozen? ⟨g,9,none⟩=false∧W.frozen? ⟨g,10,none⟩=false∧W.frozen? ⟨g,11,none⟩=false∧W.frozen? ⟨g,12,none⟩=false∧W.frozen? ⟨g,13,none⟩=false∧W.frozen? ⟨g,14,none⟩=false∧W.frozen? ⟨g,15,none⟩=false∧W.frozen? ⟨g,16,none⟩=false∧W.frozen? ⟨g,17,none⟩=false∧W.frozen? ⟨g,18,none⟩=false∧W.frozen? ⟨g,19,none⟩=false∧W.frozen? ⟨g,20,none⟩=false∧W.frozen? ⟨g,21,none⟩=false∧W.frozen? ⟨g,22,none⟩=false∧W.frozen? ⟨g,23,none⟩=false:=⟨(au h.out 0).trans rfl,(au h.out 1).trans rfl,(au h.out 2).trans rfl,(au h.out 3).trans rfl,(au h.out 4).trans rfl,(au h.out 5).trans rfl,(au h.out 6).trans rfl,(au h.out 7).trans rfl,(au h.out 8).trans rfl,(au h.out 9).trans rfl,(au h.out 10).trans rfl,(au h.out 11).trans rfl,(au h.out 12).trans rfl,(au h.out 13).trans rfl,(au h.out 14).trans rfl,(au h.out 15).trans rfl,(au h.out 16).trans rfl,(au h.out 17).trans rfl,(au h.out 18).trans rfl,(au h.out 19).trans rfl,(au h.out 20).trans rfl,(au h.out 21).trans rfl,(au h.out 22).trans rfl,(au h.out 23).trans rfl,ak h.out 0,ak h.out 1,ak h.out 2,ak h.out 3,ak h.out 4,ak h.out 5,ak h.out 6,ak h.out 7,ak h.out 8,ak h.out 9,ak h.out 10,ak h.out 11,ak h.out 12,ak h.out 13,ak h.out 14,ak h.out 15,ak h.out 16,ak h.out 17,ak h.out 18,ak h.out 19,ak h.out 20,ak h.out 21,ak h.out 22,ak h.out 23⟩
def bm(n b:Nat):Array Bool:=((List.range n).map fun i=>b.testBit i).toArray
section
variable {P:Program} {ops:Array Oper} {Q:Exit→Act→World→Prop} {md:Region.Mode} {S:World→Prop} {ds:List Nat}
theorem pu{v:Value}{a':Act}{oi:Oper}{fuel:Nat}{l:Array Bool}{a:Act}{w:World}(i:Nat)(N:Option Tmp)(l':Array Bool)(hi:ops[i]?=some oi)(hN:oi.dst=N)
 (h:bK P md ops Q S ds fuel l' a' w)
 (hy:Yields P ops oi v a:=by first|(refine Or.inl ⟨by rfl,?_⟩;intro w';go_simp;with_reducible rfl)|(refine Or.inl ⟨by rfl,?_⟩;intro w';go_simp;simp only[Instr.field,asAgg];go_simp;with_reducible rfl))
 (ha:a.put N v=a':=by(simp only[Act.put,s1,s2,s3,iC,iQ];rfl))
 (hc:M6 md ops l l' i=true:=by first|exact IU HT_.out (by kernel_rfl)|kernel_rfl)
 (hQ:∀c a w,Q (.panic c) (a.put oi.dst v) w→Q (.panic c) a w:=by exact fun _ _ _ h=>h):bK P md ops Q S ds (fuel+1) l a w:=Tj l' hi hN hc hQ hy ha h
theorem pv{a':Act}{oi:Oper}{fuel:Nat}{l:Array Bool}{a:Act}{w:World}(i:Nat)(N:Option Tmp)(l':Array Bool)(hi:ops[i]?=some oi)(hN:oi.dst=N)
 (h:bK P md ops Q S ds fuel l' a' w)
 (hy:Yields P ops oi undef a:=by exact(Or.inr ⟨by rfl,rfl⟩))
 (ha:a.put N undef=a':=by(simp only[Act.put,s1,s2,s3,iC,iQ];rfl))
 (hc:M6 md ops l l' i=true:=by first|exact IU HT_.out (by kernel_rfl)|kernel_rfl)
 (hQ:∀c a w,Q (.panic c) (a.put oi.dst undef) w→Q (.panic c) a w:=by exact fun _ _ _ h=>h):bK P md ops Q S ds (fuel+1) l a w:=Tj l' hi hN hc hQ hy ha h
theorem tk{v:Value}{a':Act}{oi:Oper}{fuel:Nat}{l:Array Bool}{a:Act}{w:World}(i:Nat)(N:Option Tmp)(l':Array Bool)(hi:ops[i]?=some oi)(hN:oi.dst=N)(hS:S w)
 (h:bK P md ops Q S ds fuel l' a' w)
 (hy:YieldsIf P ops S oi v a:=by first|(refine Or.inl ⟨by rfl,?_⟩;intro w' hs;go_simp;with_reducible rfl)|(refine Or.inl ⟨by rfl,?_⟩;intro w' hs;(try simp only[ajC,At,B1,B2,B3,B4,B5,B6,B7,B8,B11,B12,B22,B24,and_assoc,Go.IntWalk.toNatUp]at hs);go_simp;with_reducible rfl))
 (ha:a.put N v=a':=by(simp only[Act.put,s1,s2,s3,iC,iQ];rfl))
 (hc:takeB md ops ds l l' i=true:=by first|exact yX HT_.out HW_.out (by kernel_rfl)|kernel_rfl)
 (hQ:∀c a w,Q (.panic c) (a.put oi.dst v) w→Q (.panic c) a w:=by exact fun _ _ _ h=>h):bK P md ops Q S ds (fuel+1) l a w:=take_ l' hi hN hc hQ hy hS ha h
theorem nm{fuel:Nat}{l:Array Bool}{a a':Act}{w:World}(h:bK P md ops Q S ds fuel l a' w)(ha:a=a':=by(show Act.put _ (some _) _=_;simp only[Act.put,s1,s2,s3,iC,iQ];rfl)):bK P md ops Q S ds fuel l a w:=yT ha h
end
section
variable {P:Program} {ops:Array Oper} {rest:List Oper} {o:Oper} {a:Act} {Q:Exit→Act→World→Prop} {W:World}
theorem gq{aTy:Array Operand}{ts:Array TypeId}(f:FuncId)(_ho:o.op= .call {callee:=.value (.func f),args:=aTy,argTypes:=ts})(h:wpList P ops Q (o::rest) a W):wpList P ops Q (o::rest) a W:=h
theorem gd(N:Tmp)(_hN:o.dst=some N)(h:wpList P ops Q (o::rest) a W):wpList P ops Q (o::rest) a W:=h
theorem gl{f:FuncId}{fn:Func}{aTy:Array Operand}{ts:Array TypeId}(N:Option Tmp)(hf:P.funcs[f]?=some fn)(args:Array Value)
 (h:Calls P f args W fun e w'=>∃v,e= .returned v∧wpList P ops Q rest (a.put N v) w')
 (hd:o.dst=N:=by rfl)(hg:o.guard=none:=by rfl)(hname:(fn.name== "runtime.NumGoroutine")=false:=by kernel_rfl)(hb:fn.body.isSome=true:=by rfl)
 (hop:o.op= .call {callee:=.value (.func f),args:=aTy,argTypes:=ts}:=by rfl)
 (hargs:aTy.map a.eval=args:=by((try simp only[List.map_toArray,List.map_cons,List.map_nil]);first|done|rfl|(simp only[List.length_drop,List.length_take];rfl))):wpList P ops Q (o::rest) a W:=Qi N hd hg hf hname hb args hop hargs h
theorem bx{N:Tmp}{cs:Array Value}{t:TypeId}
 (h:∀g,g=W.heap.size→∀w1,w1.heap[g]?=some (.cells cs t (0,0))→Below W.heap.size W w1→wpList P ops Q rest (a.put o.dst (.pointer (some ⟨g,0,none⟩))) w1)
 (hd:o.dst=some N:=by rfl)(hgd:o.guard=none:=by rfl)
 (hr:(execOp a.eval o).run P W= .ok (.value (.pointer (some ⟨W.heap.size,0,none⟩))) (W.alloc (.cells cs t (0,0))):=by first|(go_simp;done)|(go_simp;rfl)):wpList P ops Q (o::rest) a W:=Gy hgd hd hr h
end
section
variable {P:Program} {ops:Array Oper} {Q:Exit→Act→World→Prop}
theorem gs{oi:Oper}{N:Option Tmp}{a:Act}{w:World}{K:Act→World→Prop}{f:FuncId}{fn:Func}{aTy:Array Operand}{ts:Array TypeId}(hf:P.funcs[f]?=some fn)(args:Array Value)
 (h:Calls P f args w fun e w'=>∃v,e= .returned v∧K (a.put N v) w')
 (hname:(fn.name== "runtime.NumGoroutine")=false:=by kernel_rfl)(hb:fn.body.isSome=true:=by rfl)
 (hw:Region.wanted oi (yielded ops a.tmps)=true:=by rfl)(hN:oi.dst=N:=by rfl)(hop:oi.op= .call {callee:=.value (.func f),args:=aTy,argTypes:=ts}:=by rfl)
 (hargs:aTy.map a.eval=args:=by((try simp only[List.map_toArray,List.map_cons,List.map_nil]);first|done|rfl|(simp only[List.length_drop,List.length_take];rfl))):if Region.wanted oi (yielded ops a.tmps)=true then Oper.wp P oi a w K Q else K (a.put N undef) w:=ajy hf hname hb args hw hN hop hargs h
end
theorem ob{α β:Type}{o:Option α}{f:α→Option β}{r:β}(h:o.bind f=some r):∃t,ah (o=some t)∧f t=some r:=by
 obtain⟨t,h1,h2⟩:=Option.bind_eq_some_iff.mp h
 exact⟨t,⟨h1⟩,h2⟩
section
theorem kb{W0 W W1:World}{g:Nat}{o:Obj}(h0:ah (W0.heap[g]?=some o))(hb:Below W.heap.size W W1)(m:uY W0 W:=by(with_reducible repeat(first|exact uY.refl _|apply uY.alloc|apply uY.drewN|apply uY.drew))):ah (W1.heap[g]?=some o):=⟨dX (zk h0 m) hb⟩
theorem nb{W0 W:World}{g g':Nat}{o:Obj}(h0:ah (W0.heap[g]?=some o))(hg:g'=W.heap.size)(m:uY W0 W:=by(with_reducible repeat(first|exact uY.refl _|apply uY.alloc|apply uY.drewN|apply uY.drew))):ah (g≠g')∧ah (g'≠g):=by
 have h:=fZ (zk h0 m)
 exact⟨⟨by omega⟩,⟨by omega⟩⟩
theorem gw{g:Nat}{w W0 W:World}(h0:ah (Below w.heap.size w W0))(hg:g=W.heap.size)(h:Below w.heap.size w W:=by repeat(first|(with_reducible first|exact HB.out|apply dV|apply eX|apply dG|refine o8 ?_ (ah.out (by assumption)))|exact HB.out)):ah (w.heap.size≤g):=⟨by rw[hg];exact aJ h⟩
theorem sp{c:Prop}[Decidable c]{α:Type}{a b r:α}(h:(if c then a else b)=r):(c∧a=r)∨(¬c∧b=r):=by
 by_cases hc:c
 ·rw[if_pos hc]at h;exact .inl ⟨hc,h⟩
 ·rw[if_neg hc]at h;exact .inr ⟨hc,h⟩
theorem zm{p:Prop}(h:p:=by repeat' first|(with_reducible exact gV.refl _)|(with_reducible exact gV.none _)|(with_reducible apply ng)|(with_reducible apply ih1)|(with_reducible apply ih2)|(with_reducible apply ih3)|(with_reducible apply ih4)|(with_reducible apply ih5)|(with_reducible apply ih6)|(with_reducible apply ih7)|(with_reducible apply m0)|(with_reducible apply m1)|(with_reducible apply m2)|(with_reducible apply m3)|(with_reducible apply m4)|(with_reducible apply m5)|(with_reducible apply m6)|(with_reducible apply m7)|(with_reducible apply m8)|(with_reducible apply m9)|(with_reducible apply m10)|(with_reducible apply m11)|(with_reducible apply m12)|(with_reducible apply m13)|(with_reducible apply m14)|(with_reducible apply m15)|(with_reducible apply m16)|(with_reducible apply m17)|(with_reducible apply m18)|(with_reducible apply m19)|(with_reducible apply m20)|(with_reducible apply m21)|(with_reducible apply m22)|(with_reducible apply m23)|(with_reducible refine gV.ite ?_ ?_)|(with_reducible refine gV.bind ?_ (fun _=>?_))|apply ng|apply ih1|apply ih2|apply ih3|apply ih4|apply ih5|apply ih6|apply ih7|apply m0|apply m1|apply m2|apply m3|apply m4|apply m5|apply m6|apply m7|apply m8|apply m9|apply m10|apply m11|apply m12|apply m13|apply m14|apply m15|apply m16|apply m17|apply m18|apply m19|apply m20|apply m21|apply m22|apply m23|exact gV.none _|refine gV.ite ?_ ?_|refine gV.bind ?_ (fun _=>?_)):p:=h
theorem rs{α:Type}{d:Kd α}{e base:Nat}{ok:Nat→Prop}{v:Value}{xs:List α}{W:World}(h:d.R e W base ok v xs)(P:Program)(w:World)(a:Addr)(m:Mode):(store a v m).run P w=match w.cell? a with
 |some _=>if w.frozen? a then .halt (.unsupported (.unsafePointer "a write to bytes that a string shares")) w else .ok () (w.setCell a v)
 |none=>match w.farStore P a v (m== .atomic)with
  |.ok (w',_)=>.ok () w'
  |.error h=>.halt h w:=run_store P w a v m (by obtain⟨A,c,rfl⟩:=Kd.R_slice h;rfl)
inductive yg(ok:Nat→Prop)(W0:World):World→Prop
 |refl:yg ok W0 W0
 |alloc {W:World} (h:yg ok W0 W) (o:Obj):yg ok W0 (W.alloc o)
 |drew {W:World} (h:yg ok W0 W):yg ok W0 W.drew
 |drewN {W:World} (h:yg ok W0 W) (m:Nat):yg ok W0 (W.drewN m)
 |set {W:World} (h:yg ok W0 W) {p:Addr} (hp:∀k,ok k→k≠p.block) (u:Value):yg ok W0 (W.setCell p u)
theorem qb{α:Type}{d:Kd α}{e base:Nat}{ok:Nat→Prop}{v:Value}{xs:List α}{W0 W:World}(h0:d.R e W0 base ok v xs)(m:yg ok W0 W:=by repeat(first|(with_reducible first|exact yg.refl|apply yg.alloc|apply yg.drewN|apply yg.drew)|((with_reducible apply yg.set);(case hp=>first|exact fun _ hk=>hk.2|exact fun _ hk=>hk.1.2|exact fun _ hk=>hk.1.1.2|exact fun _ hk=>hk.1.1.1.2)))):d.R e W base ok v xs:=by
 induction m with
 |refl=>exact h0
 |alloc _ o ih=>exact Kd.R_alloc ih o
 |drew _ ih=>exact Kd.R_drew ih
 |drewN _ n ih=>exact Kd.R_drewN ih n
 |set _ hp u ih=>exact Kd.R_far ih hp u
inductive LY(g:Nat)(W0:World)(c0:Array Value):World→Array Value→Prop
 |refl:LY g W0 c0 W0 c0
 |alloc {W:World} {cs:Array Value} (h:LY g W0 c0 W cs) (o:Obj):LY g W0 c0 (W.alloc o) cs
 |drew {W:World} {cs:Array Value} (h:LY g W0 c0 W cs):LY g W0 c0 W.drew cs
 |drewN {W:World} {cs:Array Value} (h:LY g W0 c0 W cs) (m:Nat):LY g W0 c0 (W.drewN m) cs
 |put {W:World} {cs:Array Value} (h:LY g W0 c0 W cs) (i:Nat) (u:Value):LY g W0 c0 (W.setCell ⟨g,i,none⟩ u) (cs.setIfInBounds i u)
 |far {W:World} {cs:Array Value} (h:LY g W0 c0 W cs) {p:Addr} (hp:g≠p.block) (u:Value):LY g W0 c0 (W.setCell p u) cs
theorem zp{W0 W:World}{g t:Nat}{c0 c1 cs:Array Value}(h0:ah (W0.heap[g]?=some (.cells c0 t (0,0))))(m:LY g W0 c0 W c1:=by repeat(first|(with_reducible first|exact LY.refl|apply LY.alloc|apply LY.drewN|apply LY.drew|apply LY.put)|((with_reducible apply LY.far);(case hp=>exact ah.out (by assumption)))))(e:c1=cs:=by first|(with_reducible rfl)|kernel_rfl):W.heap[g]?=some (.cells cs t (0,0)):=by
 subst e
 induction m with
 |refl=>exact h0.out
 |alloc _ o ih=>exact wB ih o
 |drew _ ih=>exact dn ih
 |drewN _ n ih=>exact wD ih n
 |put _ i u ih=>exact Tt ih i u rfl
 |far _ hp u ih=>exact Tn ih hp u
theorem zq{α:Type}{d:Kd α}{e base:Nat}{ok:Nat→Prop}{v:Value}{xs:List α}{W0 W:World}(h0:d.R e W0 base ok v xs)(m:uY W0 W:=by(with_reducible repeat(first|exact uY.refl _|apply uY.alloc|apply uY.drewN|apply uY.drew))):d.R e W base ok v xs:=zr ⟨h0⟩ m
section
variable {P:Program} {ops:Array Oper} {Q:Exit→Act→World→Prop}
theorem st{id:Nat}{a:Act}{w:World}{S:World→Prop}(n:Nat)(hS:S w.drew)(h:S w.drew→bK P .any ops Q S [] n (Array.replicate n false) a w.drew)(hm:P.follows .mixedOrders =true:=by kernel_rfl)(hn:ops.size=n:=by rfl):(Code.region id ops true).wp P Q a w:=tZ (ds:=[]) _ hm hn rfl hS h
end
end
end Go.Proofs.YtokblgdgpnakpaaGreat.Lm
namespace Go.Proofs.YtokblgdgpnakpaaGreat.PFnEndLess
open Go.RowKit Go.Proofs.YtokblgdgpnakpaaGreatW.PrintWords Go.Proofs.YtokblgdgpnakpaaGreatW.PrintLast Go.Proofs.YtokblgdgpnakpaaGreatW.PrintMore Go.Proofs.YtokblgdgpnakpaaGreat.Lm
attribute [local go_sem] bF bD cZ d9 aY aX bH bI
def ajD:Option Int→Value
 |none=>.nilIface
 |some c=>.iface 0 (.int .i64 c)
theorem gY:ajD none= .nilIface :=rfl
theorem gZ(c:Int):ajD (some c)= .iface 0 (.int .i64 c):=rfl
theorem ze{p:Prop}(h:p:=by first|rfl|(simp[gY,gZ]<;>rfl)|(simp[*,gY,gZ]<;>rfl)|(simp[gY,gZ];exact(by intro l_;cases l_<;>rfl:∀l_:List UInt8,l_.isEmpty= !(l_ != [])) _)):p:=h
theorem info3:(Tryz.prog.info? 3).map (fun i=>(i.zero,i.size,i.bytes))=some (some (.int .i64 0),1,8):=by kernel_rfl
theorem info5:(Tryz.prog.info? 5).map (fun i=>(i.zero,i.size,i.bytes))=some (some (.int .u8 0),1,1):=by kernel_rfl
theorem yh:(Tryz.prog.info? 89).map (fun i=>(i.zero,i.size,i.bytes))=some (some (.agg #[(.string ⟨#[]⟩),(.string ⟨#[]⟩),(.bool false)]),3,40):=by kernel_rfl
structure bg where
 f0:ByteArray
 f1:ByteArray
 f2:Bool
def z89:bg:=⟨(⟨#[]⟩:ByteArray),(⟨#[]⟩:ByteArray),false⟩
def iF:Kd bg:=Kd.iso (Kd.pair Kd.string (Kd.pair Kd.string Kd.bool)) (fun x:bg=>(x.f0,x.f1,x.f2))
theorem Ml{w:World}{x:bg}{cs:List Value}(h:iF.K w x cs):cs=[.string x.f0,.string x.f1,.bool x.f2]:=by
 obtain⟨_,_,rfl,rfl,⟨_,_,rfl,rfl,rfl⟩⟩:=h
 exact rfl
theorem lD(w:World)(base:Nat)(ok:Nat→Prop)(x:bg):iF.M w base ok x [.string x.f0,.string x.f1,.bool x.f2]:=⟨[.string x.f0],[.string x.f1,.bool x.f2],rfl,rfl,⟨[.string x.f1],[.bool x.f2],rfl,rfl,rfl⟩⟩
def aT(xs:List bg)(i:Int):bg:=xs.getD i.toNat z89
theorem eP{w:World}{A:Option Addr}{n:Nat}{xs:List bg}(h:Kd.C iF w A n xs)(i:Int)(h0:0≤i)(h1:i<n):∃ad,A=some ad∧w.cell? (ad.add (i.toNat*3))=some (.string (aT xs i).f0)∧w.cell? ⟨(ad.add (i.toNat*3)).block,(ad.add (i.toNat*3)).off+1,none⟩=some (.string (aT xs i).f1)∧w.cell? ⟨(ad.add (i.toNat*3)).block,(ad.add (i.toNat*3)).off+2,none⟩=some (.bool (aT xs i).f2):=by
 obtain⟨ad,c,e,_,hK,hc0⟩:=Kd.C_get h z89 i h0 h1
 have hc:∀j u,c[j]?=some u→w.cell? (ad.add (i.toNat*3+j))=some u:=hc0
 obtain rfl:=Ml hK
 exact⟨ad,e,hc 0 _ rfl,by rw[←jH _ _ 1 (by omega)];exact hc 1 _ rfl,by rw[←jH _ _ 2 (by omega)];exact hc 2 _ rfl⟩
structure S28 where
 f0:Int
 f1:Int
def z28:S28:=⟨(0:Int),(0:Int)⟩
def k28:Kd S28:=Kd.iso (Kd.pair (Kd.int .i64) (Kd.int .i64)) (fun x:S28=>(x.f0,x.f1))
theorem YK{w:World}{x:S28}{cs:List Value}(h:k28.K w x cs):cs=[.int .i64 x.f0,.int .i64 x.f1]:=by
 obtain⟨_,_,rfl,rfl,rfl⟩:=h
 exact rfl
theorem adH(w:World)(x:S28):k28.K w x [.int .i64 x.f0,.int .i64 x.f1]:=⟨[.int .i64 x.f0],[.int .i64 x.f1],rfl,rfl,rfl⟩
structure pV where
 f0:Int
 f1:Int
 f2:(List bg)
 f3:ByteArray
 f4:Bool
 f5:Bool
 f6:Int
 f7:(List bg)
 f8:ByteArray
 f9:Bool
 f10:S28
def z39:pV:=⟨(0:Int),(0:Int),([]:List bg),(⟨#[]⟩:ByteArray),false,false,(0:Int),([]:List bg),(⟨#[]⟩:ByteArray),false,z28⟩
def Gc:Kd pV:=Kd.iso (Kd.pair (Kd.int .i64) (Kd.pair (Kd.int .i64) (Kd.pair (Kd.slice 89 iF) (Kd.pair Kd.string (Kd.pair Kd.bool (Kd.pair Kd.bool (Kd.pair (Kd.int .i64) (Kd.pair (Kd.slice 89 iF) (Kd.pair Kd.string (Kd.pair Kd.bool k28)))))))))) (fun x:pV=>(x.f0,x.f1,x.f2,x.f3,x.f4,x.f5,x.f6,x.f7,x.f8,x.f9,x.f10))
theorem Ey{w:World}{x:pV}{cs:List Value}(h:Gc.K w x cs):∃A2 c2 A7 c7,cs=[.int .i64 x.f0,.int .i64 x.f1,.slice A2 x.f2.length c2,.string x.f3,.bool x.f4,.bool x.f5,.int .i64 x.f6,.slice A7 x.f7.length c7,.string x.f8,.bool x.f9,.int .i64 x.f10.f0,.int .i64 x.f10.f1]∧x.f2.length≤c2∧iF.C w A2 x.f2.length x.f2∧x.f7.length≤c7∧iF.C w A7 x.f7.length x.f7:=by
 obtain⟨_,_,rfl,rfl,⟨_,_,rfl,rfl,⟨_,_,rfl,⟨A2,c2,rfl,l2,g2⟩,⟨_,_,rfl,rfl,⟨_,_,rfl,rfl,⟨_,_,rfl,rfl,⟨_,_,rfl,rfl,⟨_,_,rfl,⟨A7,c7,rfl,l7,g7⟩,⟨_,_,rfl,rfl,⟨_,_,rfl,rfl,s10⟩⟩⟩⟩⟩⟩⟩⟩⟩⟩:=h
 obtain rfl:=YK s10
 exact⟨A2,c2,A7,c7,rfl,l2,g2,l7,g7⟩
theorem adI(w:World)(x:pV){A2:Option Addr}{c2:Nat}(l2:x.f2.length≤c2)(g2:iF.C w A2 x.f2.length x.f2){A7:Option Addr}{c7:Nat}(l7:x.f7.length≤c7)(g7:iF.C w A7 x.f7.length x.f7):Gc.K w x [.int .i64 x.f0,.int .i64 x.f1,.slice A2 x.f2.length c2,.string x.f3,.bool x.f4,.bool x.f5,.int .i64 x.f6,.slice A7 x.f7.length c7,.string x.f8,.bool x.f9,.int .i64 x.f10.f0,.int .i64 x.f10.f1]:=⟨[.int .i64 x.f0],[.int .i64 x.f1,.slice A2 x.f2.length c2,.string x.f3,.bool x.f4,.bool x.f5,.int .i64 x.f6,.slice A7 x.f7.length c7,.string x.f8,.bool x.f9,.int .i64 x.f10.f0,.int .i64 x.f10.f1],rfl,rfl,⟨[.int .i64 x.f1],[.slice A2 x.f2.length c2,.string x.f3,.bool x.f4,.bool x.f5,.int .i64 x.f6,.slice A7 x.f7.length c7,.string x.f8,.bool x.f9,.int .i64 x.f10.f0,.int .i64 x.f10.f1],rfl,rfl,⟨[.slice A2 x.f2.length c2],[.string x.f3,.bool x.f4,.bool x.f5,.int .i64 x.f6,.slice A7 x.f7.length c7,.string x.f8,.bool x.f9,.int .i64 x.f10.f0,.int .i64 x.f10.f1],rfl,⟨A2,c2,rfl,l2,g2⟩,⟨[.string x.f3],[.bool x.f4,.bool x.f5,.int .i64 x.f6,.slice A7 x.f7.length c7,.string x.f8,.bool x.f9,.int .i64 x.f10.f0,.int .i64 x.f10.f1],rfl,rfl,⟨[.bool x.f4],[.bool x.f5,.int .i64 x.f6,.slice A7 x.f7.length c7,.string x.f8,.bool x.f9,.int .i64 x.f10.f0,.int .i64 x.f10.f1],rfl,rfl,⟨[.bool x.f5],[.int .i64 x.f6,.slice A7 x.f7.length c7,.string x.f8,.bool x.f9,.int .i64 x.f10.f0,.int .i64 x.f10.f1],rfl,rfl,⟨[.int .i64 x.f6],[.slice A7 x.f7.length c7,.string x.f8,.bool x.f9,.int .i64 x.f10.f0,.int .i64 x.f10.f1],rfl,rfl,⟨[.slice A7 x.f7.length c7],[.string x.f8,.bool x.f9,.int .i64 x.f10.f0,.int .i64 x.f10.f1],rfl,⟨A7,c7,rfl,l7,g7⟩,⟨[.string x.f8],[.bool x.f9,.int .i64 x.f10.f0,.int .i64 x.f10.f1],rfl,rfl,⟨[.bool x.f9],[.int .i64 x.f10.f0,.int .i64 x.f10.f1],rfl,rfl,(adH w x.f10)⟩⟩⟩⟩⟩⟩⟩⟩⟩⟩
def fe(xs:List pV)(i:Int):pV:=xs.getD i.toNat z39
theorem YL{w:World}{A:Option Addr}{n:Nat}{xs:List pV}(h:Kd.C Gc w A n xs)(i:Int)(h0:0≤i)(h1:i<n):∃ad A2 c2 A7 c7,A=some ad∧w.cell? (ad.add (i.toNat*12))=some (.int .i64 (fe xs i).f0)∧w.cell? ⟨(ad.add (i.toNat*12)).block,(ad.add (i.toNat*12)).off+1,none⟩=some (.int .i64 (fe xs i).f1)∧w.cell? ⟨(ad.add (i.toNat*12)).block,(ad.add (i.toNat*12)).off+2,none⟩=some (.slice A2 (fe xs i).f2.length c2)∧w.cell? ⟨(ad.add (i.toNat*12)).block,(ad.add (i.toNat*12)).off+3,none⟩=some (.string (fe xs i).f3)∧w.cell? ⟨(ad.add (i.toNat*12)).block,(ad.add (i.toNat*12)).off+4,none⟩=some (.bool (fe xs i).f4)∧w.cell? ⟨(ad.add (i.toNat*12)).block,(ad.add (i.toNat*12)).off+5,none⟩=some (.bool (fe xs i).f5)∧w.cell? ⟨(ad.add (i.toNat*12)).block,(ad.add (i.toNat*12)).off+6,none⟩=some (.int .i64 (fe xs i).f6)∧w.cell? ⟨(ad.add (i.toNat*12)).block,(ad.add (i.toNat*12)).off+7,none⟩=some (.slice A7 (fe xs i).f7.length c7)∧w.cell? ⟨(ad.add (i.toNat*12)).block,(ad.add (i.toNat*12)).off+8,none⟩=some (.string (fe xs i).f8)∧w.cell? ⟨(ad.add (i.toNat*12)).block,(ad.add (i.toNat*12)).off+9,none⟩=some (.bool (fe xs i).f9)∧w.cell? ⟨(ad.add (i.toNat*12)).block,(ad.add (i.toNat*12)).off+10,none⟩=some (.int .i64 (fe xs i).f10.f0)∧w.cell? ⟨(ad.add (i.toNat*12)).block,(ad.add (i.toNat*12)).off+11,none⟩=some (.int .i64 (fe xs i).f10.f1)∧(fe xs i).f2.length≤c2∧iF.C w A2 (fe xs i).f2.length (fe xs i).f2∧(fe xs i).f7.length≤c7∧iF.C w A7 (fe xs i).f7.length (fe xs i).f7:=by
 obtain⟨ad,c,e,_,hK,hc0⟩:=Kd.C_get h z39 i h0 h1
 have hc:∀j u,c[j]?=some u→w.cell? (ad.add (i.toNat*12+j))=some u:=hc0
 obtain⟨A2,c2,A7,c7,rfl,l2,g2,l7,g7⟩:=Ey hK
 exact⟨ad,A2,c2,A7,c7,e,hc 0 _ rfl,by rw[←jH _ _ 1 (by omega)];exact hc 1 _ rfl,by rw[←jH _ _ 2 (by omega)];exact hc 2 _ rfl,by rw[←jH _ _ 3 (by omega)];exact hc 3 _ rfl,by rw[←jH _ _ 4 (by omega)];exact hc 4 _ rfl,by rw[←jH _ _ 5 (by omega)];exact hc 5 _ rfl,by rw[←jH _ _ 6 (by omega)];exact hc 6 _ rfl,by rw[←jH _ _ 7 (by omega)];exact hc 7 _ rfl,by rw[←jH _ _ 8 (by omega)];exact hc 8 _ rfl,by rw[←jH _ _ 9 (by omega)];exact hc 9 _ rfl,by rw[←jH _ _ 10 (by omega)];exact hc 10 _ rfl,by rw[←jH _ _ 11 (by omega)];exact hc 11 _ rfl,l2,g2,l7,g7⟩
structure nC where
 f0:Int
 f1:Bool
 f2:Int
 f3:ByteArray
def z42:nC:=⟨(0:Int),false,(0:Int),(⟨#[]⟩:ByteArray)⟩
def Ym:Kd nC:=Kd.iso (Kd.pair (Kd.int .i64) (Kd.pair Kd.bool (Kd.pair (Kd.int .i64) Kd.string))) (fun x:nC=>(x.f0,x.f1,x.f2,x.f3))
theorem Mr{w:World}{x:nC}{cs:List Value}(h:Ym.K w x cs):cs=[.int .i64 x.f0,.bool x.f1,.int .i64 x.f2,.string x.f3]:=by
 obtain⟨_,_,rfl,rfl,⟨_,_,rfl,rfl,⟨_,_,rfl,rfl,rfl⟩⟩⟩:=h
 exact rfl
theorem YM(w:World)(x:nC):Ym.K w x [.int .i64 x.f0,.bool x.f1,.int .i64 x.f2,.string x.f3]:=⟨[.int .i64 x.f0],[.bool x.f1,.int .i64 x.f2,.string x.f3],rfl,rfl,⟨[.bool x.f1],[.int .i64 x.f2,.string x.f3],rfl,rfl,⟨[.int .i64 x.f2],[.string x.f3],rfl,rfl,rfl⟩⟩⟩
def Bp(xs:List nC)(i:Int):nC:=xs.getD i.toNat z42
theorem kz{w W:World}(h:Kept w W (fun _=>False):=by repeat(first|(with_reducible first|exact HK.out|apply Kept.alloc|apply Kept.drewN|apply Kept.drew|refine Kept.setCell ?_ (.inr (ah.out (by assumption))) _)|exact HK.out)):Kept w W (fun _=>False):=h
theorem kq{w W W2:World}(hb:Below W.heap.size W W2)(h:Kept w W (fun _=>False):=by repeat(first|(with_reducible first|exact HK.out|apply Kept.alloc|apply Kept.drewN|apply Kept.drew|refine Kept.setCell ?_ (.inr (ah.out (by assumption))) _)|exact HK.out)):ah (Kept w W2 (fun _=>False)):=⟨Kept.below h hb⟩
def cK.f(a0:Int)(a1:Int)(a2:Int):Option (Bool):=if a0≥a1 then(some (decide (a0≤a2)))else(some false)
theorem cK.calls(a0:Int)(a1:Int)(a2:Int)(r:Bool)(w:World)(h:cK.f a0 a1 a2=some r):
 Calls Tryz.prog 44 #[.int .i64 a0,.int .i64 a1,.int .i64 a2] w fun e w'=>e= .returned (.bool r)∧aZ w w':=by
 have H:(if a0≥a1 then(some (decide (a0≤a2)))else(some false))=some r:=h
 clear h
 replace H:=sp H
 rcases H with⟨c4,H⟩|⟨c4,H⟩
 ·skip
  have c4b0:=decide_eq_true c4
  clear c4
  obtain rfl:=Option.some.inj H
  go_enter Tryz.func44,Tryz.ntmps44
  go_wp2
  go_ret
  exact⟨zs,by repeat(first|exact aZ.refl _|apply aZ.step)⟩
 ·skip
  have c4b0:=decide_eq_false c4
  clear c4
  obtain rfl:=Option.some.inj H
  go_enter Tryz.func44,Tryz.ntmps44
  go_wp2
  go_ret
  exact⟨zs,by repeat(first|exact aZ.refl _|apply aZ.step)⟩
def kK.f(aV:Int)(aA:Int):Option (Bool):=(cK.f aV 0 31).bind fun YN=>(if YN=true then((cK.f aA 0 31).bind fun YO=>(some YO))else(some false))
theorem kK.calls(aV:Int)(aA:Int)(r:Bool)(w:World)(h:kK.f aV aA=some r):
 Calls Tryz.prog 31 #[.agg #[.int .i64 aV,.int .i64 aA]] w fun e w'=>e= .returned (.bool r)∧Below w.heap.size w w':=by
 have a3K:=Tryz.underlying28
 have HB:=ah.mk (Below.refl w.heap.size w)
 have H:((cK.f aV 0 31).bind fun YN=>(if YN=true then((cK.f aA 0 31).bind fun YO=>(some YO))else(some false)))=some r:=h
 clear h
 obtain⟨YN,A2,H⟩:=ob H
 (try dsimp only at H)
 by_cases c3:YN=true
 ·subst c3
  rw[if_pos rfl]at H
  obtain⟨YO,A4,H⟩:=ob H
  (try dsimp only at H)
  obtain rfl:=Option.some.inj H
  go_enter Tryz.func31,Tryz.ntmps31
  go_wp2_with (first|((with_reducible refine gd 1 rfl ?_);refine bx (N:=1) (cs:=#[.int .i64 aV,.int .i64 aA]) (t:=28) ?_;intro ajE hg w5 hbox hb;have YP:=ah.mk (hbox);have YQ:=gw HB hg;have ajF:=YQ;replace HB:=ah.mk (ai (zb HB) hb);clear hb hbox hg;obtain⟨Ez,EA,QC,EB⟩:=c2 YP)|((with_reducible refine gq 44 rfl ?_);refine gl (some 5) Tryz.func44 #[.int .i64 aV,.int .i64 0,.int .i64 31] ?_;(with_reducible refine(cK.calls aV 0 31 true _ A2.out).mono ?_);rintro e w' ⟨rfl,⟨nd,rfl⟩⟩;refine⟨_,rfl,?_⟩)|(go_at_call 44;(with_reducible refine(cK.calls aA 0 31 YO _ A4.out).mono ?_);rintro e w' ⟨rfl,⟨nd,rfl⟩⟩))
  go_ret
  exact⟨ze,zb HB⟩
 ·replace c3:=Bool.eq_false_iff.mpr c3
  subst c3
  rw[if_neg (show ¬(false=true) by decide)]at H
  obtain rfl:=Option.some.inj H
  go_enter Tryz.func31,Tryz.ntmps31
  go_wp2_with (first|((with_reducible refine gd 1 rfl ?_);refine bx (N:=1) (cs:=#[.int .i64 aV,.int .i64 aA]) (t:=28) ?_;intro ajE hg w7 hbox hb;have YP:=ah.mk (hbox);have YQ:=gw HB hg;have ajF:=YQ;replace HB:=ah.mk (ai (zb HB) hb);clear hb hbox hg;obtain⟨Bq,Br,Bt,Bu⟩:=c2 YP)|((with_reducible refine gq 44 rfl ?_);refine gl (some 5) Tryz.func44 #[.int .i64 aV,.int .i64 0,.int .i64 31] ?_;(with_reducible refine(cK.calls aV 0 31 false _ A2.out).mono ?_);rintro e w' ⟨rfl,⟨nd,rfl⟩⟩;refine⟨_,rfl,?_⟩))
  go_ret
  exact⟨ze,zb HB⟩
def bZ.f(a0:Int):Option (Bool):=(cK.f a0 1 7).bind fun YR=>(if YR=true then(some ((Int.tmod a0 2)==1))else(some false))
theorem bZ.calls(a0:Int)(r:Bool)(w:World)(h:bZ.f a0=some r):
 Calls Tryz.prog 53 #[.int .i64 a0] w fun e w'=>e= .returned (.bool r)∧aZ w w':=by
 have H:((cK.f a0 1 7).bind fun YR=>(if YR=true then(some ((Int.tmod a0 2)==1))else(some false)))=some r:=h
 clear h
 obtain⟨YR,A2,H⟩:=ob H
 (try dsimp only at H)
 by_cases c3:YR=true
 ·subst c3
  rw[if_pos rfl]at H
  obtain rfl:=Option.some.inj H
  go_enter Tryz.func53,Tryz.ntmps53
  go_wp2_with (first|((with_reducible refine gq 44 rfl ?_);refine gl (some 4) Tryz.func44 #[.int .i64 a0,.int .i64 1,.int .i64 7] ?_;(with_reducible refine(cK.calls a0 1 7 true _ A2.out).mono ?_);rintro e w' ⟨rfl,⟨nd,rfl⟩⟩;refine⟨_,rfl,?_⟩))
  go_ret
  exact⟨zs,by repeat(first|exact aZ.refl _|apply aZ.step)⟩
 ·replace c3:=Bool.eq_false_iff.mpr c3
  subst c3
  rw[if_neg (show ¬(false=true) by decide)]at H
  obtain rfl:=Option.some.inj H
  go_enter Tryz.func53,Tryz.ntmps53
  go_wp2_with (first|((with_reducible refine gq 44 rfl ?_);refine gl (some 4) Tryz.func44 #[.int .i64 a0,.int .i64 1,.int .i64 7] ?_;(with_reducible refine(cK.calls a0 1 7 false _ A2.out).mono ?_);rintro e w' ⟨rfl,⟨nd,rfl⟩⟩;refine⟨_,rfl,?_⟩))
  go_ret
  exact⟨zs,by repeat(first|exact aZ.refl _|apply aZ.step)⟩
def dw.l0:Nat→Int→Int→Option (Int)
 |0,_,_=>none
 |k+1,x0,x3=>if x3<39 then(if 0≤x3 then(if(bt (⟨#[101,116,97,111,105,110,115,114,104,108,48,49,50,51,52,53,54,55,56,57,100,99,117,109,102,112,103,119,121,98,118,107,120,106,113,122,58,47,45]⟩:ByteArray) x3)=x0 then(some x3)else(dw.l0 k x0 (wrap64 (x3+1))))else(none))else(some (-1))
def dw.f(k:Nat)(a0:Int):Option (Int):=dw.l0 k a0 0
theorem dw.mono_l:∀k,(∀y0 y1,gV (dw.l0 k y0 y1) (dw.l0 (k+1) y0 y1))
 |0=>fun _ _ r h=>by simp[dw.l0]at h
 |k+1=>by
  have ng:=dw.mono_l k
  ·intro y0 y1
   unfold dw.l0
   exact zm
theorem dw.mono:∀a0 k,gV (dw.f k a0) (dw.f (k+1) a0):=by
 intro a0 k
 have ng:=dw.mono_l k
 unfold dw.f
 exact zm
theorem dw.calls(k:Nat)(a0:Int)(r:Int)(w:World)(h:dw.f k a0=some r):
 Calls Tryz.prog 74 #[.int .u8 a0] w fun e w'=>e= .returned (.int .i64 r)∧aZ w w':=by
 have H:(dw.l0 k a0 0)=some r:=h
 clear h
 have H':=ah.mk H
 clear H
 go_enter Tryz.func74,Tryz.ntmps74
 go_wp2
 go_loopg [3] k (fun kq v3 w'=>∃(cO:Int),v3= .int .i64 cO∧ah (dw.l0 kq a0 cO=some r)∧ah (kq≤k)∧aZ w w')
 case atStart=>exact⟨(0),zs,H',⟨Nat.le_refl _⟩,by repeat(first|exact aZ.refl _|apply aZ.step)⟩
 case round=>
  clear H'
  obtain⟨cO,rfl,HA,jc,⟨m1,rfl⟩⟩:=hrel
  cases gk with
  |zero=>exact absurd HA.out (by simp[dw.l0])
  |succ k1=>
   have H:=HA.out
   clear HA
   simp only[dw.l0]at H
   replace H:=sp H
   rcases H with⟨c2,H⟩|⟨c2,H⟩
   ·skip
    have c2b0:=decide_eq_true c2
    clear c2
    by_cases c3:0≤cO
    ·rw[if_pos c3]at H
     have c3b0:=decide_eq_true c3
     clear c3
     by_cases c5:(bt (⟨#[101,116,97,111,105,110,115,114,104,108,48,49,50,51,52,53,54,55,56,57,100,99,117,109,102,112,103,119,121,98,118,107,120,106,113,122,58,47,45]⟩:ByteArray) cO)=a0
     ·rw[if_pos c5]at H
      have c5b0:((bt (⟨#[101,116,97,111,105,110,115,114,104,108,48,49,50,51,52,53,54,55,56,57,100,99,117,109,102,112,103,119,121,98,118,107,120,106,113,122,58,47,45]⟩:ByteArray) cO)==a0)=true:=beq_iff_eq.mpr c5
      have c5b1:((bt (⟨#[101,116,97,111,105,110,115,114,104,108,48,49,50,51,52,53,54,55,56,57,100,99,117,109,102,112,103,119,121,98,118,107,120,106,113,122,58,47,45]⟩:ByteArray) cO) != a0)=false:=bne_eq_false_iff_eq.mpr c5
      clear c5
      obtain rfl:=Option.some.inj H
      have p4:0≤(cO:Int):=of_decide_eq_true za
      have q4:cO<(39:Int):=of_decide_eq_true za
      have hx4:=gB (⟨#[101,116,97,111,105,110,115,114,104,108,48,49,50,51,52,53,54,55,56,57,100,99,117,109,102,112,103,119,121,98,118,107,120,106,113,122,58,47,45]⟩:ByteArray) cO
      replace p4:=eq_true p4
      replace q4:=eq_true q4
      go_wp2
      go_ret
      exact⟨zs,by repeat(first|exact aZ.refl _|apply aZ.step)⟩
     ·rw[if_neg c5]at H
      have c5b0:((bt (⟨#[101,116,97,111,105,110,115,114,104,108,48,49,50,51,52,53,54,55,56,57,100,99,117,109,102,112,103,119,121,98,118,107,120,106,113,122,58,47,45]⟩:ByteArray) cO)==a0)=false:=beq_eq_false_iff_ne.mpr c5
      have c5b1:((bt (⟨#[101,116,97,111,105,110,115,114,104,108,48,49,50,51,52,53,54,55,56,57,100,99,117,109,102,112,103,119,121,98,118,107,120,106,113,122,58,47,45]⟩:ByteArray) cO) != a0)=true:=bne_iff_ne.mpr c5
      have H':=ah.mk H
      clear H
      have p4:0≤(cO:Int):=of_decide_eq_true za
      have q4:cO<(39:Int):=of_decide_eq_true za
      have hx4:=gB (⟨#[101,116,97,111,105,110,115,114,104,108,48,49,50,51,52,53,54,55,56,57,100,99,117,109,102,112,103,119,121,98,118,107,120,106,113,122,58,47,45]⟩:ByteArray) cO
      replace p4:=eq_true p4
      replace q4:=eq_true q4
      go_wp2
      go_roundg k1
      case measure=>have:=jc.out;omega
      case rel=>exact⟨(wrap64 (cO+1)),zs,H',⟨by have:=jc.out;omega⟩,by repeat(first|exact aZ.refl _|apply aZ.step)⟩
    ·rw[if_neg c3]at H
     exact absurd H (by simp)
   ·skip
    have c2b0:=decide_eq_false c2
    clear c2
    obtain rfl:=Option.some.inj H
    go_wp2
    go_ret
    exact⟨zs,by repeat(first|exact aZ.refl _|apply aZ.step)⟩
def aW.l0:Nat→ByteArray→Int→Option (Bool)
 |0,_,_=>none
 |k+1,x0,x3=>if x3<(x0.size:Int)then(if 0≤x3 then((dw.f k (bt x0 x3)).bind fun t105=>(if t105<0 then(some false)else(aW.l0 k x0 (wrap64 (x3+1)))))else(none))else(some (decide ((x0.size:Int)≤16)))
def aW.f(k:Nat)(a0:ByteArray):Option (Bool):=aW.l0 k a0 0
theorem aW.mono_l:∀k,(∀y0 y1,gV (aW.l0 k y0 y1) (aW.l0 (k+1) y0 y1))
 |0=>fun _ _ r h=>by simp[aW.l0]at h
 |k+1=>by
  have ng:=aW.mono_l k
  ·intro y0 y1
   unfold aW.l0
   have m0:=@dw.mono
   exact zm
theorem aW.mono:∀a0 k,gV (aW.f k a0) (aW.f (k+1) a0):=by
 intro a0 k
 have ng:=aW.mono_l k
 unfold aW.f
 have m0:=@dw.mono
 exact zm
theorem aW.calls(k:Nat)(a0:ByteArray)(r:Bool)(w:World)(h:aW.f k a0=some r):
 Calls Tryz.prog 55 #[.string a0] w fun e w'=>e= .returned (.bool r)∧aZ w w':=by
 have H:(aW.l0 k a0 0)=some r:=h
 clear h
 have H':=ah.mk H
 clear H
 go_enter Tryz.func55,Tryz.ntmps55
 go_wp2
 go_loopg [3] k (fun kq v3 w'=>∃(cO:Int),v3= .int .i64 cO∧ah (aW.l0 kq a0 cO=some r)∧ah (kq≤k)∧aZ w w')
 case atStart=>exact⟨(0),zs,H',⟨Nat.le_refl _⟩,by repeat(first|exact aZ.refl _|apply aZ.step)⟩
 case round=>
  clear H'
  obtain⟨cO,rfl,HA,jc,⟨m1,rfl⟩⟩:=hrel
  cases gk with
  |zero=>exact absurd HA.out (by simp[aW.l0])
  |succ k1=>
   have H:=HA.out
   clear HA
   simp only[aW.l0]at H
   replace H:=sp H
   rcases H with⟨c2,H⟩|⟨c2,H⟩
   ·skip
    have c2b0:=decide_eq_true c2
    clear c2
    by_cases c3:0≤cO
    ·rw[if_pos c3]at H
     have c3b0:=decide_eq_true c3
     clear c3
     obtain⟨t105,A5,H⟩:=ob H
     (try dsimp only at H)
     by_cases c6:t105<0
     ·rw[if_pos c6]at H
      have c6b0:=decide_eq_true c6
      clear c6
      obtain rfl:=Option.some.inj H
      have p4:0≤(cO:Int):=of_decide_eq_true za
      have q4:cO<(a0.size:Int):=of_decide_eq_true za
      have hx4:=gB a0 cO
      replace p4:=eq_true p4
      replace q4:=eq_true q4
      go_wp2_with (first|((with_reducible refine gq 74 rfl ?_);refine gl (some 13) Tryz.func74 #[.int .u8 (bt a0 cO)] ?_;(with_reducible refine(dw.calls k1 (bt a0 cO) t105 _ A5.out).mono ?_);rintro e w' ⟨rfl,⟨nd,rfl⟩⟩;refine⟨_,rfl,?_⟩))
      go_ret
      exact⟨zs,by repeat(first|exact aZ.refl _|apply aZ.step)⟩
     ·rw[if_neg c6]at H
      have c6b0:=decide_eq_false c6
      clear c6
      have H':=ah.mk H
      clear H
      have p4:0≤(cO:Int):=of_decide_eq_true za
      have q4:cO<(a0.size:Int):=of_decide_eq_true za
      have hx4:=gB a0 cO
      replace p4:=eq_true p4
      replace q4:=eq_true q4
      go_wp2_with (first|((with_reducible refine gq 74 rfl ?_);refine gl (some 13) Tryz.func74 #[.int .u8 (bt a0 cO)] ?_;(with_reducible refine(dw.calls k1 (bt a0 cO) t105 _ A5.out).mono ?_);rintro e w' ⟨rfl,⟨nd,rfl⟩⟩;refine⟨_,rfl,?_⟩))
      go_roundg k1
      case measure=>have:=jc.out;omega
      case rel=>exact⟨(wrap64 (cO+1)),zs,H',⟨by have:=jc.out;omega⟩,by repeat(first|exact aZ.refl _|apply aZ.step)⟩
    ·rw[if_neg c3]at H
     exact absurd H (by simp)
   ·skip
    have c2b0:=decide_eq_false c2
    clear c2
    obtain rfl:=Option.some.inj H
    go_wp2
    go_ret
    exact⟨zs,by repeat(first|exact aZ.refl _|apply aZ.step)⟩
def eF.f(k:Nat)(aV:ByteArray)(aA:ByteArray)(dN:Bool):Option (Bool):=(aW.f k aV).bind fun t107=>(if t107=true then(if aV.toList=([]:List UInt8)then(some false)else((aW.f k aA).bind fun YS=>(some YS)))else(some false))
theorem eF.mono:∀a0 a1 a2 k,gV (eF.f k a0 a1 a2) (eF.f (k+1) a0 a1 a2):=by
 intro a0 a1 a2 k
 unfold eF.f
 have m0:=@aW.mono
 exact zm
theorem eF.calls(k:Nat)(aV:ByteArray)(aA:ByteArray)(dN:Bool)(r:Bool)(w:World)(h:eF.f k aV aA dN=some r):
 Calls Tryz.prog 56 #[.agg #[.string aV,.string aA,.bool dN]] w fun e w'=>e= .returned (.bool r)∧Below w.heap.size w w':=by
 have rZ:=Tryz.underlying89
 have HB:=ah.mk (Below.refl w.heap.size w)
 have H:((aW.f k aV).bind fun t107=>(if t107=true then(if aV.toList=([]:List UInt8)then(some false)else((aW.f k aA).bind fun YS=>(some YS)))else(some false)))=some r:=h
 clear h
 obtain⟨t107,A2,H⟩:=ob H
 (try dsimp only at H)
 by_cases c3:t107=true
 ·subst c3
  rw[if_pos rfl]at H
  replace H:=sp H
  rcases H with⟨c4,H⟩|⟨c4,H⟩
  ·skip
   have c4b0:(aV.toList==([]:List UInt8))=true:=beq_iff_eq.mpr c4
   have c4b1:(aV.toList != ([]:List UInt8))=false:=bne_eq_false_iff_eq.mpr c4
   clear c4
   obtain rfl:=Option.some.inj H
   go_enter Tryz.func56,Tryz.ntmps56
   go_wp2_with (first|((with_reducible refine gd 1 rfl ?_);refine bx (N:=1) (cs:=#[.string aV,.string aA,.bool dN]) (t:=89) ?_;intro ab2 hg w5 hbox hb;have Ms:=ah.mk (hbox);have Mt:=gw HB hg;have ab3:=Mt;replace HB:=ah.mk (ai (zb HB) hb);clear hb hbox hg;obtain⟨Ez,EA,adJ,QC,EB,adK⟩:=c3 Ms)|((with_reducible refine gq 55 rfl ?_);refine gl (some 5) Tryz.func55 #[.string aV] ?_;(with_reducible refine(aW.calls k aV true _ A2.out).mono ?_);rintro e w' ⟨rfl,⟨nd,rfl⟩⟩;refine⟨_,rfl,?_⟩))
   go_ret
   exact⟨ze,zb HB⟩
  ·skip
   have c4b0:(aV.toList==([]:List UInt8))=false:=beq_eq_false_iff_ne.mpr c4
   have c4b1:(aV.toList != ([]:List UInt8))=true:=bne_iff_ne.mpr c4
   obtain⟨YS,A7,H⟩:=ob H
   (try dsimp only at H)
   obtain rfl:=Option.some.inj H
   go_enter Tryz.func56,Tryz.ntmps56
   go_wp2_with (first|((with_reducible refine gd 1 rfl ?_);refine bx (N:=1) (cs:=#[.string aV,.string aA,.bool dN]) (t:=89) ?_;intro ab2 hg w8 hbox hb;have Ms:=ah.mk (hbox);have Mt:=gw HB hg;have ab3:=Mt;replace HB:=ah.mk (ai (zb HB) hb);clear hb hbox hg;obtain⟨yj,yo,Bv,yt,yu,Bw⟩:=c3 Ms)|((with_reducible refine gq 55 rfl ?_);refine gl (some 5) Tryz.func55 #[.string aV] ?_;(with_reducible refine(aW.calls k aV true _ A2.out).mono ?_);rintro e w' ⟨rfl,⟨nd,rfl⟩⟩;refine⟨_,rfl,?_⟩)|(go_at_call 55;(with_reducible refine(aW.calls k aA YS _ A7.out).mono ?_);rintro e w' ⟨rfl,⟨nd,rfl⟩⟩))
   go_ret
   exact⟨ze,zb HB⟩
 ·replace c3:=Bool.eq_false_iff.mpr c3
  subst c3
  rw[if_neg (show ¬(false=true) by decide)]at H
  obtain rfl:=Option.some.inj H
  go_enter Tryz.func56,Tryz.ntmps56
  go_wp2_with (first|((with_reducible refine gd 1 rfl ?_);refine bx (N:=1) (cs:=#[.string aV,.string aA,.bool dN]) (t:=89) ?_;intro ab2 hg w10 hbox hb;have Ms:=ah.mk (hbox);have Mt:=gw HB hg;have ab3:=Mt;replace HB:=ah.mk (ai (zb HB) hb);clear hb hbox hg;obtain⟨Tw,Tx,a3L,Ty,Tz,a3M⟩:=c3 Ms)|((with_reducible refine gq 55 rfl ?_);refine gl (some 5) Tryz.func55 #[.string aV] ?_;(with_reducible refine(aW.calls k aV false _ A2.out).mono ?_);rintro e w' ⟨rfl,⟨nd,rfl⟩⟩;refine⟨_,rfl,?_⟩))
  go_ret
  exact⟨ze,zb HB⟩
def bn.l0:Nat→List (bg)→Int→Option (Bool)
 |0,_,_=>none
 |k+1,x0,x3=>if x3<(x0.length:Int)then(if 0≤x3 then((eF.f k ((aT x0 x3).f0) ((aT x0 x3).f1) ((aT x0 x3).f2)).bind fun a3N=>(if a3N=true then(bn.l0 k x0 (wrap64 (x3+1)))else(some false)))else(none))else(some (decide ((x0.length:Int)≤6)))
def bn.f(k:Nat)(l0:List (bg)):Option (Bool):=bn.l0 k l0 0
theorem bn.mono_l:∀k,(∀y0 y1,gV (bn.l0 k y0 y1) (bn.l0 (k+1) y0 y1))
 |0=>fun _ _ r h=>by simp[bn.l0]at h
 |k+1=>by
  have ng:=bn.mono_l k
  ·intro y0 y1
   unfold bn.l0
   have m0:=@eF.mono
   exact zm
theorem bn.mono:∀a0 k,gV (bn.f k a0) (bn.f (k+1) a0):=by
 intro a0 k
 have ng:=bn.mono_l k
 unfold bn.f
 have m0:=@eF.mono
 exact zm
theorem bn.calls(k:Nat)(A0:Option Addr)(c0:Nat)(l0:List (bg))(r:Bool)(w:World)(hr0:Kd.C iF w A0 l0.length l0)(hc0:l0.length≤c0)(h:bn.f k l0=some r):
 Calls Tryz.prog 54 #[.slice A0 l0.length c0] w fun e w'=>e= .returned (.bool r)∧Below w.heap.size w w':=by
 have rZ:=Tryz.underlying89
 have Gd:=ah.mk hr0
 have HC0:=ah.mk hc0
 clear hr0 hc0
 have HB:=ah.mk (Below.refl w.heap.size w)
 have H:(bn.l0 k l0 0)=some r:=h
 clear h
 have H':=ah.mk H
 clear H
 go_enter Tryz.func54,Tryz.ntmps54
 go_wp2
 go_loopg [3] k (fun kq v3 w'=>∃(cO:Int),v3= .int .i64 cO∧ah (bn.l0 kq l0 cO=some r)∧ah (kq≤k)∧ah (Below w.heap.size w w'))
 case atStart=>exact⟨(0),zs,H',⟨Nat.le_refl _⟩,⟨zb HB⟩⟩
 case round=>
  clear H'
  obtain⟨cO,rfl,HA,jc,HB⟩:=hrel
  cases gk with
  |zero=>exact absurd HA.out (by simp[bn.l0])
  |succ k1=>
   have H:=HA.out
   clear HA
   simp only[bn.l0]at H
   replace H:=sp H
   rcases H with⟨c2,H⟩|⟨c2,H⟩
   ·skip
    have c2b0:=decide_eq_true c2
    clear c2
    by_cases c3:0≤cO
    ·rw[if_pos c3]at H
     have c3b0:=decide_eq_true c3
     clear c3
     obtain⟨a3N,A4,H⟩:=ob H
     (try dsimp only at H)
     have YT:=ah.mk H
     clear H
     have adL:0≤(cO:Int):=of_decide_eq_true za
     have adM:cO<(l0.length:Int):=of_decide_eq_true za
     obtain⟨aKo,e109,TA,TB,TF⟩:=eP Gd.out cO adL adM
     cases e109
     replace TA:=pM TA HB
     replace TB:=pM TB HB
     replace TF:=pM TF HB
     replace adL:=eq_true adL
     replace adM:=eq_true adM
     go_upto_if 15 with(first|((with_reducible refine gq 56 rfl ?_);refine gl (some 14) Tryz.func56 #[.agg #[.string ((aT l0 cO).f0),.string ((aT l0 cO).f1),.bool ((aT l0 cO).f2)]] ?_;(with_reducible refine(eF.calls k1 ((aT l0 cO).f0) ((aT l0 cO).f1) ((aT l0 cO).f2) a3N _ A4.out).mono ?_);rintro e w6 ⟨rfl,hb⟩;refine⟨_,rfl,?_⟩;replace HB:=ah.mk (ai (zb HB) hb);(try clear hb)))
     (try simp only[Act.put,s1,s2,s3])
     have H:=YT.out
     clear YT
     by_cases c7:a3N=true
     ·subst c7
      rw[if_pos rfl]at H
      have H':=ah.mk H
      clear H
      go_wp2
      go_roundg k1
      case measure=>have:=jc.out;omega
      case rel=>exact⟨(wrap64 (cO+1)),zs,H',⟨by have:=jc.out;omega⟩,⟨zb HB⟩⟩
     ·replace c7:=Bool.eq_false_iff.mpr c7
      subst c7
      rw[if_neg (show ¬(false=true) by decide)]at H
      obtain rfl:=Option.some.inj H
      go_wp2
      go_ret
      exact⟨ze,zb HB⟩
    ·rw[if_neg c3]at H
     exact absurd H (by simp)
   ·skip
    have c2b0:=decide_eq_false c2
    clear c2
    obtain rfl:=Option.some.inj H
    go_wp2
    go_ret
    exact⟨ze,zb HB⟩
def iL.f(k:Nat)(aV:Int)(aA:Int)(jo:List (bg))(cB:ByteArray)(lI:Bool)(lJ:Bool)(lU:Int)(j4:List (bg))(jf:ByteArray)(nu:Bool)(gW:Int)(j5:Int):Option (Bool):=(bZ.f aV).bind fun YU=>(if YU=true then((cK.f aA 1 3).bind fun YV=>(if YV=true then((bn.f k jo).bind fun YW=>(if YW=true then((bn.f k j4).bind fun YX=>(if YX=true then((aW.f k cB).bind fun t116=>(if t116=true then((aW.f k jf).bind fun t117=>(if t117=true then((cK.f lU 0 (cB.size:Int)).bind fun YZ=>(if YZ=true then((kK.f gW j5).bind fun t119=>(some t119))else(some false)))else(some false)))else(some false)))else(some false)))else(some false)))else(some false)))else(some false))
theorem iL.mono:∀a0 a1 a2 a3 a4 a5 a6 a7 a8 a9 Mw QD k,gV (iL.f k a0 a1 a2 a3 a4 a5 a6 a7 a8 a9 Mw QD) (iL.f (k+1) a0 a1 a2 a3 a4 a5 a6 a7 a8 a9 Mw QD):=by
 intro a0 a1 a2 a3 a4 a5 a6 a7 a8 a9 Mw QD k
 unfold iL.f
 have m0:=@bn.mono
 have m1:=@aW.mono
 exact zm
theorem iL.calls(k:Nat)(aV:Int)(aA:Int)(qc:Option Addr)(qd:Nat)(jo:List (bg))(cB:ByteArray)(lI:Bool)(lJ:Bool)(lU:Int)(sP:Option Addr)(sQ:Nat)(j4:List (bg))(jf:ByteArray)(nu:Bool)(gW:Int)(j5:Int)(r:Bool)(w:World)(Cs:Kd.C iF w qc jo.length jo)(Ct:jo.length≤qd)(Mx:Kd.C iF w sP j4.length j4)(MB:j4.length≤sQ)(h:iL.f k aV aA jo cB lI lJ lU j4 jf nu gW j5=some r):
 Calls Tryz.prog 28 #[.agg #[.int .i64 aV,.int .i64 aA,.slice qc jo.length qd,.string cB,.bool lI,.bool lJ,.int .i64 lU,.slice sP j4.length sQ,.string jf,.bool nu,.int .i64 gW,.int .i64 j5]] w fun e w'=>e= .returned (.bool r)∧Below w.heap.size w w':=by
 have adN:=Tryz.underlying39
 have a3K:=Tryz.underlying28
 have rA:=ah.mk Cs
 have rD:=ah.mk Ct
 clear Cs Ct
 have vE:=ah.mk Mx
 have vF:=ah.mk MB
 clear Mx MB
 have HB:=ah.mk (Below.refl w.heap.size w)
 have H:((bZ.f aV).bind fun YU=>(if YU=true then((cK.f aA 1 3).bind fun YV=>(if YV=true then((bn.f k jo).bind fun YW=>(if YW=true then((bn.f k j4).bind fun YX=>(if YX=true then((aW.f k cB).bind fun t116=>(if t116=true then((aW.f k jf).bind fun t117=>(if t117=true then((cK.f lU 0 (cB.size:Int)).bind fun YZ=>(if YZ=true then((kK.f gW j5).bind fun t119=>(some t119))else(some false)))else(some false)))else(some false)))else(some false)))else(some false)))else(some false)))else(some false)))=some r:=h
 clear h
 obtain⟨YU,A2,H⟩:=ob H
 (try dsimp only at H)
 by_cases c3:YU=true
 ·subst c3
  rw[if_pos rfl]at H
  obtain⟨YV,A4,H⟩:=ob H
  (try dsimp only at H)
  by_cases c5:YV=true
  ·subst c5
   rw[if_pos rfl]at H
   obtain⟨YW,A6,H⟩:=ob H
   (try dsimp only at H)
   by_cases c7:YW=true
   ·subst c7
    rw[if_pos rfl]at H
    obtain⟨YX,A8,H⟩:=ob H
    (try dsimp only at H)
    by_cases c9:YX=true
    ·subst c9
     rw[if_pos rfl]at H
     obtain⟨t116,Qb,H⟩:=ob H
     (try dsimp only at H)
     by_cases c11:t116=true
     ·subst c11
      rw[if_pos rfl]at H
      obtain⟨t117,Xi,H⟩:=ob H
      (try dsimp only at H)
      by_cases c13:t117=true
      ·subst c13
       rw[if_pos rfl]at H
       obtain⟨YZ,A14,H⟩:=ob H
       (try dsimp only at H)
       by_cases c15:YZ=true
       ·subst c15
        rw[if_pos rfl]at H
        obtain⟨t119,A16,H⟩:=ob H
        (try dsimp only at H)
        obtain rfl:=Option.some.inj H
        go_enter Tryz.func28,Tryz.ntmps28
        go_wp2_with (first|((with_reducible refine gd 1 rfl ?_);(try(refine aM (by rfl) ?_;dsimp only));refine bx (N:=1) (cs:=#[.int .i64 aV,.int .i64 aA,.slice qc jo.length qd,.string cB,.bool lI,.bool lJ,.int .i64 lU,.slice sP j4.length sQ,.string jf,.bool nu,.int .i64 gW,.int .i64 j5]) (t:=39) ?_;intro EC hg w17 hbox hb;have gM:=ah.mk (hbox);have qC:=gw HB hg;have EF:=qC;replace HB:=ah.mk (ai (zb HB) hb);clear hb hbox hg;obtain⟨TG,TH,a3P,a3Q,a3R,a3S,a3T,a3U,a3V,a3W,Z0,Z4,TI,TJ,a3X,a3Y,a3Z,a4a,a4b,a4c,a4d,a4e,Z5,Z6⟩:=c12 gM)|((with_reducible refine gq 53 rfl ?_);refine gl (some 5) Tryz.func53 #[.int .i64 aV] ?_;(with_reducible refine(bZ.calls aV true _ A2.out).mono ?_);rintro e w' ⟨rfl,⟨nd,rfl⟩⟩;refine⟨_,rfl,?_⟩)|(go_at_call 44;(with_reducible refine(cK.calls aA 1 3 true _ A4.out).mono ?_);rintro e w' ⟨rfl,⟨nd,rfl⟩⟩)|(go_at_call 54;(with_reducible refine(bn.calls k _ _ jo true _ ?aN ?aQ A6.out).mono ?_);(case aN=>exact(Kd.C_below rA.out (zb HB)));(case aQ=>exact rD.out);rintro e w19 ⟨rfl,hb⟩;replace gM:=kb gM hb;replace HB:=ah.mk (ai (zb HB) hb);(try clear hb);obtain⟨TK,TL,a4f,a4g,a4h,a4i,a4j,a4k,a4l,a4m,Z7,Z8,TM,TN,a4n,a4o,a4p,a4q,a4r,a4s,a4t,a4u,Z9,Za⟩:=c12 gM)|(go_at_call 54;(with_reducible refine(bn.calls k _ _ j4 true _ ?aN ?aQ A8.out).mono ?_);(case aN=>exact zc (Kd.C_below vE.out HB.out));(case aQ=>exact vF.out);rintro e w21 ⟨rfl,hb⟩;replace gM:=kb gM hb;replace HB:=ah.mk (ai (zb HB) hb);(try clear hb);obtain⟨TP,TQ,a4v,aqG,aqH,aqI,aqJ,aqK,aqL,aqM,ajH,ajI,TR,TT,a4w,aqN,aqO,aqP,aqQ,aqR,aqS,aqT,ajJ,ajK⟩:=c12 gM)|(go_at_call 55;(with_reducible refine(aW.calls k cB true _ Qb.out).mono ?_);rintro e w' ⟨rfl,⟨nd,rfl⟩⟩)|(go_at_call 55;(with_reducible refine(aW.calls k jf true _ Xi.out).mono ?_);rintro e w' ⟨rfl,⟨nd,rfl⟩⟩)|(go_at_call 44;(with_reducible refine(cK.calls lU 0 (cB.size:Int) true _ A14.out).mono ?_);rintro e w' ⟨rfl,⟨nd,rfl⟩⟩)|(go_at_call 31;(with_reducible refine(kK.calls gW j5 t119 _ A16.out).mono ?_);rintro e w23 ⟨rfl,hb⟩;replace gM:=kb gM hb;replace HB:=ah.mk (ai (zb HB) hb);(try clear hb)))
        go_ret
        exact⟨ze,zb HB⟩
       ·replace c15:=Bool.eq_false_iff.mpr c15
        subst c15
        rw[if_neg (show ¬(false=true) by decide)]at H
        obtain rfl:=Option.some.inj H
        go_enter Tryz.func28,Tryz.ntmps28
        go_wp2_with (first|((with_reducible refine gd 1 rfl ?_);(try(refine aM (by rfl) ?_;dsimp only));refine bx (N:=1) (cs:=#[.int .i64 aV,.int .i64 aA,.slice qc jo.length qd,.string cB,.bool lI,.bool lJ,.int .i64 lU,.slice sP j4.length sQ,.string jf,.bool nu,.int .i64 gW,.int .i64 j5]) (t:=39) ?_;intro EC hg w24 hbox hb;have gM:=ah.mk (hbox);have qC:=gw HB hg;have EF:=qC;replace HB:=ah.mk (ai (zb HB) hb);clear hb hbox hg;obtain⟨TU,TY,U0,U1,a4x,a4y,a4z,a4A,a4B,a4C,Zb,Zc,U2,U3,U4,U5,a4D,a4E,a4F,a4G,a4H,a4I,Zd,Ze⟩:=c12 gM)|((with_reducible refine gq 53 rfl ?_);refine gl (some 5) Tryz.func53 #[.int .i64 aV] ?_;(with_reducible refine(bZ.calls aV true _ A2.out).mono ?_);rintro e w' ⟨rfl,⟨nd,rfl⟩⟩;refine⟨_,rfl,?_⟩)|(go_at_call 44;(with_reducible refine(cK.calls aA 1 3 true _ A4.out).mono ?_);rintro e w' ⟨rfl,⟨nd,rfl⟩⟩)|(go_at_call 54;(with_reducible refine(bn.calls k _ _ jo true _ ?aN ?aQ A6.out).mono ?_);(case aN=>exact(Kd.C_below rA.out (zb HB)));(case aQ=>exact rD.out);rintro e w26 ⟨rfl,hb⟩;replace gM:=kb gM hb;replace HB:=ah.mk (ai (zb HB) hb);(try clear hb);obtain⟨IV,IW,IX,IY,a4J,a4K,a4L,a4M,a4N,a4O,Zf,Zg,IZ,J2,J3,J4,a4P,a4Q,a4R,a4S,a4T,a4U,Zh,Zi⟩:=c12 gM)|(go_at_call 54;(with_reducible refine(bn.calls k _ _ j4 true _ ?aN ?aQ A8.out).mono ?_);(case aN=>exact zc (Kd.C_below vE.out HB.out));(case aQ=>exact vF.out);rintro e w28 ⟨rfl,hb⟩;replace gM:=kb gM hb;replace HB:=ah.mk (ai (zb HB) hb);(try clear hb);obtain⟨J5,J6,J7,U6,a4V,a4W,a4X,a4Y,a4Z,a5a,Zj,Zk,J8,J9,Ja,U7,a5b,a5c,a5d,a5e,a5f,a5g,Zl,Zm⟩:=c12 gM)|(go_at_call 55;(with_reducible refine(aW.calls k cB true _ Qb.out).mono ?_);rintro e w' ⟨rfl,⟨nd,rfl⟩⟩)|(go_at_call 55;(with_reducible refine(aW.calls k jf true _ Xi.out).mono ?_);rintro e w' ⟨rfl,⟨nd,rfl⟩⟩)|(go_at_call 44;(with_reducible refine(cK.calls lU 0 (cB.size:Int) false _ A14.out).mono ?_);rintro e w' ⟨rfl,⟨nd,rfl⟩⟩))
        go_ret
        exact⟨ze,zb HB⟩
      ·replace c13:=Bool.eq_false_iff.mpr c13
       subst c13
       rw[if_neg (show ¬(false=true) by decide)]at H
       obtain rfl:=Option.some.inj H
       go_enter Tryz.func28,Tryz.ntmps28
       go_wp2_with (first|((with_reducible refine gd 1 rfl ?_);(try(refine aM (by rfl) ?_;dsimp only));refine bx (N:=1) (cs:=#[.int .i64 aV,.int .i64 aA,.slice qc jo.length qd,.string cB,.bool lI,.bool lJ,.int .i64 lU,.slice sP j4.length sQ,.string jf,.bool nu,.int .i64 gW,.int .i64 j5]) (t:=39) ?_;intro EC hg w30 hbox hb;have gM:=ah.mk (hbox);have qC:=gw HB hg;have EF:=qC;replace HB:=ah.mk (ai (zb HB) hb);clear hb hbox hg;obtain⟨Dl,Dm,Dn,U8,a5h,a5i,a5j,a5k,a5l,a5m,Zn,Zo,Dp,Dq,Dr,U9,a5n,a5o,a5p,a5q,a5r,a5s,Zp,Zq⟩:=c12 gM)|((with_reducible refine gq 53 rfl ?_);refine gl (some 5) Tryz.func53 #[.int .i64 aV] ?_;(with_reducible refine(bZ.calls aV true _ A2.out).mono ?_);rintro e w' ⟨rfl,⟨nd,rfl⟩⟩;refine⟨_,rfl,?_⟩)|(go_at_call 44;(with_reducible refine(cK.calls aA 1 3 true _ A4.out).mono ?_);rintro e w' ⟨rfl,⟨nd,rfl⟩⟩)|(go_at_call 54;(with_reducible refine(bn.calls k _ _ jo true _ ?aN ?aQ A6.out).mono ?_);(case aN=>exact(Kd.C_below rA.out (zb HB)));(case aQ=>exact rD.out);rintro e w32 ⟨rfl,hb⟩;replace gM:=kb gM hb;replace HB:=ah.mk (ai (zb HB) hb);(try clear hb);obtain⟨yY,yZ,z8,Jb,a5t,a5u,a5v,a5w,a5x,a5y,Zr,Zt,zf,zi,zl,Jc,a5z,a5A,a5B,a5C,a5D,a5E,Zu,Zv⟩:=c12 gM)|(go_at_call 54;(with_reducible refine(bn.calls k _ _ j4 true _ ?aN ?aQ A8.out).mono ?_);(case aN=>exact zc (Kd.C_below vE.out HB.out));(case aQ=>exact vF.out);rintro e LZ ⟨rfl,hb⟩;replace gM:=kb gM hb;replace HB:=ah.mk (ai (zb HB) hb);(try clear hb);obtain⟨Jd,Je,Ua,a5F,a5G,a5H,a5I,a5J,a5K,a5L,Zw,Zx,Jf,Jg,Ub,a5M,a5N,a5O,a5P,a5Q,a5R,a5S,Zy,Zz⟩:=c12 gM)|(go_at_call 55;(with_reducible refine(aW.calls k cB true _ Qb.out).mono ?_);rintro e w' ⟨rfl,⟨nd,rfl⟩⟩)|(go_at_call 55;(with_reducible refine(aW.calls k jf false _ Xi.out).mono ?_);rintro e w' ⟨rfl,⟨nd,rfl⟩⟩))
       go_ret
       exact⟨ze,zb HB⟩
     ·replace c11:=Bool.eq_false_iff.mpr c11
      subst c11
      rw[if_neg (show ¬(false=true) by decide)]at H
      obtain rfl:=Option.some.inj H
      go_enter Tryz.func28,Tryz.ntmps28
      go_wp2_with (first|((with_reducible refine gd 1 rfl ?_);(try(refine aM (by rfl) ?_;dsimp only));refine bx (N:=1) (cs:=#[.int .i64 aV,.int .i64 aA,.slice qc jo.length qd,.string cB,.bool lI,.bool lJ,.int .i64 lU,.slice sP j4.length sQ,.string jf,.bool nu,.int .i64 gW,.int .i64 j5]) (t:=39) ?_;intro EC hg w36 hbox hb;have gM:=ah.mk (hbox);have qC:=gw HB hg;have EF:=qC;replace HB:=ah.mk (ai (zb HB) hb);clear hb hbox hg;obtain⟨Dt,Du,Jh,Ji,a5T,a5U,a5V,a5W,a5X,a5Y,ZA,ZB,Dv,Dw,Jj,Jk,a5Z,a6a,a6b,a6c,a6d,a6e,ZC,ZE⟩:=c12 gM)|((with_reducible refine gq 53 rfl ?_);refine gl (some 5) Tryz.func53 #[.int .i64 aV] ?_;(with_reducible refine(bZ.calls aV true _ A2.out).mono ?_);rintro e w' ⟨rfl,⟨nd,rfl⟩⟩;refine⟨_,rfl,?_⟩)|(go_at_call 44;(with_reducible refine(cK.calls aA 1 3 true _ A4.out).mono ?_);rintro e w' ⟨rfl,⟨nd,rfl⟩⟩)|(go_at_call 54;(with_reducible refine(bn.calls k _ _ jo true _ ?aN ?aQ A6.out).mono ?_);(case aN=>exact(Kd.C_below rA.out (zb HB)));(case aQ=>exact rD.out);rintro e w38 ⟨rfl,hb⟩;replace gM:=kb gM hb;replace HB:=ah.mk (ai (zb HB) hb);(try clear hb);obtain⟨Jl,Jm,Jo,a6f,a6g,a6h,a6i,a6j,a6k,a6l,ZF,ZG,Jp,Jq,Jr,a6m,a6n,a6o,a6p,a6q,a6r,a6s,ZH,ZI⟩:=c12 gM)|(go_at_call 54;(with_reducible refine(bn.calls k _ _ j4 true _ ?aN ?aQ A8.out).mono ?_);(case aN=>exact zc (Kd.C_below vE.out HB.out));(case aQ=>exact vF.out);rintro e w40 ⟨rfl,hb⟩;replace gM:=kb gM hb;replace HB:=ah.mk (ai (zb HB) hb);(try clear hb);obtain⟨Js,Jt,Ju,Uc,a6t,a6u,a6v,a6w,a6x,a6y,ZJ,ZK,Jv,Jw,Jy,Ud,a6z,a6A,a6B,a6C,a6D,a6E,ZL,ZM⟩:=c12 gM)|(go_at_call 55;(with_reducible refine(aW.calls k cB false _ Qb.out).mono ?_);rintro e w' ⟨rfl,⟨nd,rfl⟩⟩))
      go_ret
      exact⟨ze,zb HB⟩
    ·replace c9:=Bool.eq_false_iff.mpr c9
     subst c9
     rw[if_neg (show ¬(false=true) by decide)]at H
     obtain rfl:=Option.some.inj H
     go_enter Tryz.func28,Tryz.ntmps28
     go_wp2_with (first|((with_reducible refine gd 1 rfl ?_);(try(refine aM (by rfl) ?_;dsimp only));refine bx (N:=1) (cs:=#[.int .i64 aV,.int .i64 aA,.slice qc jo.length qd,.string cB,.bool lI,.bool lJ,.int .i64 lU,.slice sP j4.length sQ,.string jf,.bool nu,.int .i64 gW,.int .i64 j5]) (t:=39) ?_;intro EC hg w42 hbox hb;have gM:=ah.mk (hbox);have qC:=gw HB hg;have EF:=qC;replace HB:=ah.mk (ai (zb HB) hb);clear hb hbox hg;obtain⟨Ue,Uf,Ug,Uh,a6F,a6G,a6H,a6I,a6J,a6K,ZN,ZO,Ui,Uj,Uk,Ul,a6L,a6M,a6N,a6O,a6P,a6Q,ZP,ZQ⟩:=c12 gM)|((with_reducible refine gq 53 rfl ?_);refine gl (some 5) Tryz.func53 #[.int .i64 aV] ?_;(with_reducible refine(bZ.calls aV true _ A2.out).mono ?_);rintro e w' ⟨rfl,⟨nd,rfl⟩⟩;refine⟨_,rfl,?_⟩)|(go_at_call 44;(with_reducible refine(cK.calls aA 1 3 true _ A4.out).mono ?_);rintro e w' ⟨rfl,⟨nd,rfl⟩⟩)|(go_at_call 54;(with_reducible refine(bn.calls k _ _ jo true _ ?aN ?aQ A6.out).mono ?_);(case aN=>exact(Kd.C_below rA.out (zb HB)));(case aQ=>exact rD.out);rintro e w44 ⟨rfl,hb⟩;replace gM:=kb gM hb;replace HB:=ah.mk (ai (zb HB) hb);(try clear hb);obtain⟨aqW,aqX,aqY,aqZ,ar0,ar1,ar2,ar3,ar4,ar5,ajM,ajN,ar6,ar7,ar8,ar9,ara,arb,ard,arf,arh,ari,ajO,ajP⟩:=c12 gM)|(go_at_call 54;(with_reducible refine(bn.calls k _ _ j4 false _ ?aN ?aQ A8.out).mono ?_);(case aN=>exact zc (Kd.C_below vE.out HB.out));(case aQ=>exact vF.out);rintro e w46 ⟨rfl,hb⟩;replace gM:=kb gM hb;replace HB:=ah.mk (ai (zb HB) hb);(try clear hb)))
     go_ret
     exact⟨ze,zb HB⟩
   ·replace c7:=Bool.eq_false_iff.mpr c7
    subst c7
    rw[if_neg (show ¬(false=true) by decide)]at H
    obtain rfl:=Option.some.inj H
    go_enter Tryz.func28,Tryz.ntmps28
    go_wp2_with (first|((with_reducible refine gd 1 rfl ?_);(try(refine aM (by rfl) ?_;dsimp only));refine bx (N:=1) (cs:=#[.int .i64 aV,.int .i64 aA,.slice qc jo.length qd,.string cB,.bool lI,.bool lJ,.int .i64 lU,.slice sP j4.length sQ,.string jf,.bool nu,.int .i64 gW,.int .i64 j5]) (t:=39) ?_;intro EC hg w47 hbox hb;have gM:=ah.mk (hbox);have qC:=gw HB hg;have EF:=qC;replace HB:=ah.mk (ai (zb HB) hb);clear hb hbox hg;obtain⟨arj,ark,arl,arn,aro,arp,arq,ars,aru,arv,ajQ,ajR,arw,arx,arz,arA,arB,arC,arD,arE,arF,arG,ajS,ajT⟩:=c12 gM)|((with_reducible refine gq 53 rfl ?_);refine gl (some 5) Tryz.func53 #[.int .i64 aV] ?_;(with_reducible refine(bZ.calls aV true _ A2.out).mono ?_);rintro e w' ⟨rfl,⟨nd,rfl⟩⟩;refine⟨_,rfl,?_⟩)|(go_at_call 44;(with_reducible refine(cK.calls aA 1 3 true _ A4.out).mono ?_);rintro e w' ⟨rfl,⟨nd,rfl⟩⟩)|(go_at_call 54;(with_reducible refine(bn.calls k _ _ jo false _ ?aN ?aQ A6.out).mono ?_);(case aN=>exact(Kd.C_below rA.out (zb HB)));(case aQ=>exact rD.out);rintro e w49 ⟨rfl,hb⟩;replace gM:=kb gM hb;replace HB:=ah.mk (ai (zb HB) hb);(try clear hb)))
    go_ret
    exact⟨ze,zb HB⟩
  ·replace c5:=Bool.eq_false_iff.mpr c5
   subst c5
   rw[if_neg (show ¬(false=true) by decide)]at H
   obtain rfl:=Option.some.inj H
   go_enter Tryz.func28,Tryz.ntmps28
   go_wp2_with (first|((with_reducible refine gd 1 rfl ?_);(try(refine aM (by rfl) ?_;dsimp only));refine bx (N:=1) (cs:=#[.int .i64 aV,.int .i64 aA,.slice qc jo.length qd,.string cB,.bool lI,.bool lJ,.int .i64 lU,.slice sP j4.length sQ,.string jf,.bool nu,.int .i64 gW,.int .i64 j5]) (t:=39) ?_;intro EC hg w50 hbox hb;have gM:=ah.mk (hbox);have qC:=gw HB hg;have EF:=qC;replace HB:=ah.mk (ai (zb HB) hb);clear hb hbox hg;obtain⟨arH,arI,arJ,arK,arL,arM,arN,arO,arP,arQ,ajU,ajV,arR,arS,arT,arU,arV,arW,arX,arY,arZ,as0,ajW,ajX⟩:=c12 gM)|((with_reducible refine gq 53 rfl ?_);refine gl (some 5) Tryz.func53 #[.int .i64 aV] ?_;(with_reducible refine(bZ.calls aV true _ A2.out).mono ?_);rintro e w' ⟨rfl,⟨nd,rfl⟩⟩;refine⟨_,rfl,?_⟩)|(go_at_call 44;(with_reducible refine(cK.calls aA 1 3 false _ A4.out).mono ?_);rintro e w' ⟨rfl,⟨nd,rfl⟩⟩))
   go_ret
   exact⟨ze,zb HB⟩
 ·replace c3:=Bool.eq_false_iff.mpr c3
  subst c3
  rw[if_neg (show ¬(false=true) by decide)]at H
  obtain rfl:=Option.some.inj H
  go_enter Tryz.func28,Tryz.ntmps28
  go_wp2_with (first|((with_reducible refine gd 1 rfl ?_);(try(refine aM (by rfl) ?_;dsimp only));refine bx (N:=1) (cs:=#[.int .i64 aV,.int .i64 aA,.slice qc jo.length qd,.string cB,.bool lI,.bool lJ,.int .i64 lU,.slice sP j4.length sQ,.string jf,.bool nu,.int .i64 gW,.int .i64 j5]) (t:=39) ?_;intro EC hg w52 hbox hb;have gM:=ah.mk (hbox);have qC:=gw HB hg;have EF:=qC;replace HB:=ah.mk (ai (zb HB) hb);clear hb hbox hg;obtain⟨as1,as2,as3,as4,as5,as6,as7,as8,as9,asa,ajY,ajZ,asb,asc,ase,asf,asg,ash,asi,asj,asl,asn,ak0,ak1⟩:=c12 gM)|((with_reducible refine gq 53 rfl ?_);refine gl (some 5) Tryz.func53 #[.int .i64 aV] ?_;(with_reducible refine(bZ.calls aV false _ A2.out).mono ?_);rintro e w' ⟨rfl,⟨nd,rfl⟩⟩;refine⟨_,rfl,?_⟩))
  go_ret
  exact⟨ze,zb HB⟩
def dh.j0:Nat→Int→Bool→Int→Bool→Int→ByteArray→Option (Bool)
 |0,_,_,_,_,_,_=>none
 |k+1,x4,x5,aso,Jz,Dx,rE=>if x5=true then((bZ.f Dx).bind fun adP=>(if adP=true then(some (decide ((rE.size:Int)≤200)))else(some false)))else(if x4=3 then((bZ.f Dx).bind fun adQ=>(if adQ=true then(if Jz=true then(some false)else(some (rE.toList==([]:List UInt8))))else(some false)))else(if x4=8 then(if Dx=0 then(if Jz=true then(some false)else(if(rE.size:Int)=1 then(if 0<(rE.size:Int)then((cK.f (wrap64 (bt rE 0)) 1 31).bind fun adR=>(some adR))else(none))else(some false)))else((bZ.f Dx).bind fun t124=>(if t124=true then(if Jz=true then(some false)else(if(rE.size:Int)=1 then(if 0<(rE.size:Int)then((cK.f (wrap64 (bt rE 0)) 1 31).bind fun adS=>(some adS))else(none))else(some false)))else(some false))))else(some false)))
def dh.f(k:Nat)(aV:Int)(aA:Bool)(dN:Int)(cB:ByteArray):Option (Bool):=if aV=0 then(dh.j0 k aV (aV==0) aV aA dN cB)else(dh.j0 k aV (aV==1) aV aA dN cB)
theorem dh.mono_l:∀k,(∀y0 y1 y2 y3 y4 y5,gV (dh.j0 k y0 y1 y2 y3 y4 y5) (dh.j0 (k+1) y0 y1 y2 y3 y4 y5))
 |0=>fun _ _ _ _ _ _ r h=>by simp[dh.j0]at h
 |k+1=>by
  have ng:=dh.mono_l k
  ·intro y0 y1 y2 y3 y4 y5
   unfold dh.j0
   exact zm
theorem dh.mono:∀a0 a1 a2 a3 k,gV (dh.f k a0 a1 a2 a3) (dh.f (k+1) a0 a1 a2 a3):=by
 intro a0 a1 a2 a3 k
 have ng:=dh.mono_l k
 unfold dh.f
 exact zm
theorem dh.calls(k:Nat)(aV:Int)(aA:Bool)(dN:Int)(cB:ByteArray)(r:Bool)(w:World)(h:dh.f k aV aA dN cB=some r):
 Calls Tryz.prog 29 #[.agg #[.int .i64 aV,.bool aA,.int .i64 dN,.string cB]] w fun e w'=>e= .returned (.bool r)∧Below w.heap.size w w':=by
 have a6R:=Tryz.underlying42
 have HB:=ah.mk (Below.refl w.heap.size w)
 have H:(if aV=0 then(dh.j0 k aV (aV==0) aV aA dN cB)else(dh.j0 k aV (aV==1) aV aA dN cB))=some r:=h
 clear h
 have HC2:=ah.mk H
 clear H
 go_enter Tryz.func29,Tryz.ntmps29
 go_upto_if 5 with(first|((with_reducible refine gd 1 rfl ?_);(try(refine aM (by rfl) ?_;dsimp only));refine bx (N:=1) (cs:=#[.int .i64 aV,.bool aA,.int .i64 dN,.string cB]) (t:=42) ?_;intro ak2 hg w3 hbox hb;have pW:=ah.mk (hbox);have ak3:=gw HB hg;have aKq:=ak3;replace HB:=ah.mk (ai (zb HB) hb);clear hb hbox hg;obtain⟨um,uo,yw,Bz,yx,uq,yA,BA⟩:=c4 pW))
 (try simp only[Act.put,s1,s2,s3])
 go_cut [5] (fun v5 wc=>∃(kq:Nat)(jE:Bool),v5= .bool jE∧ah (dh.j0 kq aV jE aV aA dN cB=some r)∧ah (kq≤k)∧ah (wc.heap[ak2]?=some (.cells #[.int .i64 aV,.bool aA,.int .i64 dN,.string cB] 42 (0,0)))∧ah (Below w.heap.size w wc))
 case first=>
  have H:=HC2.out
  clear HC2
  replace H:=sp H
  rcases H with⟨c5,H⟩|⟨c5,H⟩
  ·skip
   have c5b0:(aV==0)=true:=beq_iff_eq.mpr c5
   have c5b1:(aV != 0)=false:=bne_eq_false_iff_eq.mpr c5
   clear c5
   (first|rw[c5b0]|rw[c5b1]|rw[c5b2]|(simp only[iC,iQ];rw[c5b0])|skip)
   have H':=ah.mk H
   clear H
   go_wp2
   go_meet
   case rel=>exact⟨_,((aV==0)),zs,H',⟨by first|omega|exact Nat.le_refl _⟩,⟨by exact zk pW⟩,⟨zb HB⟩⟩
  ·skip
   have c5b0:(aV==0)=false:=beq_eq_false_iff_ne.mpr c5
   have c5b1:(aV != 0)=true:=bne_iff_ne.mpr c5
   (first|rw[c5b0]|rw[c5b1]|rw[c5b2]|(simp only[iC,iQ];rw[c5b0])|skip)
   have H':=ah.mk H
   clear H
   go_wp2
   go_meet
   case rel=>exact⟨_,((aV==1)),zs,H',⟨by first|omega|exact Nat.le_refl _⟩,⟨by exact zk pW⟩,⟨zb HB⟩⟩
 case rest=>
  clear HC2
  try clear c2
  try clear p2
  try clear c5
  try clear c5b0
  try clear c5b1
  try clear c5b2
  try clear um
  try clear uo
  try clear yw
  try clear Bz
  try clear yx
  try clear uq
  try clear yA
  try clear BA
  obtain⟨kq,jE,rfl,HA,HJ1,pW,HB⟩:=hcut
  cases kq with
  |zero=>exact absurd HA.out (by simp[dh.j0])
  |succ kj1=>
   have H:=HA.out
   clear HA
   simp only[dh.j0]at H
   by_cases c6:jE=true
   ·subst c6
    rw[if_pos rfl]at H
    obtain⟨adP,A7,H⟩:=ob H
    (try dsimp only at H)
    by_cases c8:adP=true
    ·subst c8
     rw[if_pos rfl]at H
     obtain rfl:=Option.some.inj H
     obtain⟨yj,yo,Bv,ZR,yt,yu,Bw,ZT⟩:=c4 pW
     go_wp2_with (first|((with_reducible refine gq 53 rfl ?_);refine gl (some 10) Tryz.func53 #[.int .i64 dN] ?_;(with_reducible refine(bZ.calls dN true _ A7.out).mono ?_);rintro e w' ⟨rfl,⟨nd,rfl⟩⟩;refine⟨_,rfl,?_⟩))
     go_ret
     exact⟨ze,zb HB⟩
    ·replace c8:=Bool.eq_false_iff.mpr c8
     subst c8
     rw[if_neg (show ¬(false=true) by decide)]at H
     obtain rfl:=Option.some.inj H
     obtain⟨Dy,Dz,Um,a6S,DC,DF,Un,a6T⟩:=c4 pW
     go_wp2_with (first|((with_reducible refine gq 53 rfl ?_);refine gl (some 10) Tryz.func53 #[.int .i64 dN] ?_;(with_reducible refine(bZ.calls dN false _ A7.out).mono ?_);rintro e w' ⟨rfl,⟨nd,rfl⟩⟩;refine⟨_,rfl,?_⟩))
     go_ret
     exact⟨ze,zb HB⟩
   ·replace c6:=Bool.eq_false_iff.mpr c6
    subst c6
    rw[if_neg (show ¬(false=true) by decide)]at H
    replace H:=sp H
    rcases H with⟨c11,H⟩|⟨c11,H⟩
    ·skip
     have c11b0:(aV==3)=true:=beq_iff_eq.mpr c11
     have c11b1:(aV != 3)=false:=bne_eq_false_iff_eq.mpr c11
     clear c11
     obtain⟨adQ,Xi,H⟩:=ob H
     (try dsimp only at H)
     by_cases c13:adQ=true
     ·subst c13
      rw[if_pos rfl]at H
      by_cases c14:aA=true
      ·subst c14
       rw[if_pos rfl]at H
       obtain rfl:=Option.some.inj H
       obtain⟨zn,zo,zu,Uo,zw,zx,zy,Uq⟩:=c4 pW
       go_wp2_with (first|((with_reducible refine gq 53 rfl ?_);refine gl (some 21) Tryz.func53 #[.int .i64 dN] ?_;(with_reducible refine(bZ.calls dN true _ Xi.out).mono ?_);rintro e w' ⟨rfl,⟨nd,rfl⟩⟩;refine⟨_,rfl,?_⟩))
       go_ret
       exact⟨ze,zb HB⟩
      ·replace c14:=Bool.eq_false_iff.mpr c14
       subst c14
       rw[if_neg (show ¬(false=true) by decide)]at H
       obtain rfl:=Option.some.inj H
       obtain⟨JA,JB,Ur,Us,JC,JD,Ut,Uu⟩:=c4 pW
       go_wp2_with (first|((with_reducible refine gq 53 rfl ?_);refine gl (some 21) Tryz.func53 #[.int .i64 dN] ?_;(with_reducible refine(bZ.calls dN true _ Xi.out).mono ?_);rintro e w' ⟨rfl,⟨nd,rfl⟩⟩;refine⟨_,rfl,?_⟩))
       go_ret
       exact⟨ze,zb HB⟩
     ·replace c13:=Bool.eq_false_iff.mpr c13
      subst c13
      rw[if_neg (show ¬(false=true) by decide)]at H
      obtain rfl:=Option.some.inj H
      obtain⟨wG,wH,JE,asq,wI,wJ,JF,asr⟩:=c4 pW
      go_wp2_with (first|((with_reducible refine gq 53 rfl ?_);refine gl (some 21) Tryz.func53 #[.int .i64 dN] ?_;(with_reducible refine(bZ.calls dN false _ Xi.out).mono ?_);rintro e w' ⟨rfl,⟨nd,rfl⟩⟩;refine⟨_,rfl,?_⟩))
      go_ret
      exact⟨ze,zb HB⟩
    ·skip
     have c11b0:(aV==3)=false:=beq_eq_false_iff_ne.mpr c11
     have c11b1:(aV != 3)=true:=bne_iff_ne.mpr c11
     replace H:=sp H
     rcases H with⟨c18,H⟩|⟨c18,H⟩
     ·skip
      have c18b0:(aV==8)=true:=beq_iff_eq.mpr c18
      have c18b1:(aV != 8)=false:=bne_eq_false_iff_eq.mpr c18
      clear c18
      by_cases c19:dN=0
      ·rw[if_pos c19]at H
       have c19b0:(dN==0)=true:=beq_iff_eq.mpr c19
       have c19b1:(dN != 0)=false:=bne_eq_false_iff_eq.mpr c19
       clear c19
       by_cases c20:aA=true
       ·subst c20
        rw[if_pos rfl]at H
        obtain rfl:=Option.some.inj H
        obtain⟨JG,JH,a6U,ast,Uv,JI,a6V,asu⟩:=c4 pW
        go_wp2
        go_ret
        exact⟨ze,zb HB⟩
       ·replace c20:=Bool.eq_false_iff.mpr c20
        subst c20
        rw[if_neg (show ¬(false=true) by decide)]at H
        by_cases LX:(cB.size:Int)=1
        ·rw[if_pos LX]at H
         have c22b0:((cB.size:Int)==1)=true:=beq_iff_eq.mpr LX
         have c22b1:((cB.size:Int) != 1)=false:=bne_eq_false_iff_eq.mpr LX
         clear LX
         by_cases c23:0<(cB.size:Int)
         ·rw[if_pos c23]at H
          have c23b0:=decide_eq_true c23
          have c23b1:=decide_eq_true (by omega)
          clear c23
          obtain⟨adR,A25,H⟩:=ob H
          (try dsimp only at H)
          obtain rfl:=Option.some.inj H
          obtain⟨JJ,JK,a6W,asv,JL,JM,a6X,asw⟩:=c4 pW
          have p24:0≤(0:Int):=(by omega)
          have q24:0<cB.size:=(by have:(0:Int)<(cB.size:Int):=of_decide_eq_true za;omega)
          have hx24:∀h:0<cB.size,((cB[0]'h).toNat:Int)=bt cB 0:=gB cB 0
          clear p24
          have aPd:(0<(cB.size:Int))=True:=eq_true (of_decide_eq_true za)
          replace q24:=eq_true q24
          go_wp2_with (first|(go_at_call 44;(with_reducible refine(cK.calls (wrap64 (bt cB 0)) 1 31 adR _ A25.out).mono ?_);rintro e w' ⟨rfl,⟨nd,rfl⟩⟩))
          go_ret
          exact⟨ze,zb HB⟩
         ·rw[if_neg c23]at H
          exact absurd H (by simp)
        ·rw[if_neg LX]at H
         have c22b0:((cB.size:Int)==1)=false:=beq_eq_false_iff_ne.mpr LX
         have c22b1:((cB.size:Int) != 1)=true:=bne_iff_ne.mpr LX
         obtain rfl:=Option.some.inj H
         obtain⟨IV,IW,IX,IY,IZ,J2,J3,J4⟩:=c4 pW
         go_wp2
         go_ret
         exact⟨ze,zb HB⟩
      ·rw[if_neg c19]at H
       have c19b0:(dN==0)=false:=beq_eq_false_iff_ne.mpr c19
       have c19b1:(dN != 0)=true:=bne_iff_ne.mpr c19
       obtain⟨t124,A28,H⟩:=ob H
       (try dsimp only at H)
       by_cases MC:t124=true
       ·subst MC
        rw[if_pos rfl]at H
        by_cases QE:aA=true
        ·subst QE
         rw[if_pos rfl]at H
         obtain rfl:=Option.some.inj H
         obtain⟨Dl,Dm,Dn,U8,Dp,Dq,Dr,U9⟩:=c4 pW
         go_wp2_with (first|(go_at_call 53;(with_reducible refine(bZ.calls dN true _ A28.out).mono ?_);rintro e w' ⟨rfl,⟨nd,rfl⟩⟩))
         go_ret
         exact⟨ze,zb HB⟩
        ·replace QE:=Bool.eq_false_iff.mpr QE
         subst QE
         rw[if_neg (show ¬(false=true) by decide)]at H
         by_cases c32:(cB.size:Int)=1
         ·rw[if_pos c32]at H
          have c32b0:((cB.size:Int)==1)=true:=beq_iff_eq.mpr c32
          have c32b1:((cB.size:Int) != 1)=false:=bne_eq_false_iff_eq.mpr c32
          clear c32
          by_cases c33:0<(cB.size:Int)
          ·rw[if_pos c33]at H
           have c33b0:=decide_eq_true c33
           have c33b1:=decide_eq_true (by omega)
           clear c33
           obtain⟨adS,A35,H⟩:=ob H
           (try dsimp only at H)
           obtain rfl:=Option.some.inj H
           obtain⟨a6Y,a6Z,a7a,a7b,a7c,a7d,a7e,a7f⟩:=c4 pW
           go_wp2_with (first|(go_at_call 53;(with_reducible refine(bZ.calls dN true _ A28.out).mono ?_);rintro e w' ⟨rfl,⟨nd,rfl⟩⟩;have p34:0≤(0:Int):=(by omega);have q34:0<cB.size:=(by have:(0:Int)<(cB.size:Int):=of_decide_eq_true za;omega);have hx34:∀h:0<cB.size,((cB[0]'h).toNat:Int)=bt cB 0:=gB cB 0;clear p34;have aPe:(0<(cB.size:Int))=True:=eq_true (of_decide_eq_true za);replace q34:=eq_true q34)|(go_at_call 44;(with_reducible refine(cK.calls (wrap64 (bt cB 0)) 1 31 adS _ A35.out).mono ?_);rintro e w' ⟨rfl,⟨nd,rfl⟩⟩))
           go_ret
           exact⟨ze,zb HB⟩
          ·rw[if_neg c33]at H
           exact absurd H (by simp)
         ·rw[if_neg c32]at H
          have c32b0:((cB.size:Int)==1)=false:=beq_eq_false_iff_ne.mpr c32
          have c32b1:((cB.size:Int) != 1)=true:=bne_iff_ne.mpr c32
          obtain rfl:=Option.some.inj H
          obtain⟨Dt,Du,Jh,Ji,Dv,Dw,Jj,Jk⟩:=c4 pW
          go_wp2_with (first|(go_at_call 53;(with_reducible refine(bZ.calls dN true _ A28.out).mono ?_);rintro e w' ⟨rfl,⟨nd,rfl⟩⟩))
          go_ret
          exact⟨ze,zb HB⟩
       ·replace MC:=Bool.eq_false_iff.mpr MC
        subst MC
        rw[if_neg (show ¬(false=true) by decide)]at H
        obtain rfl:=Option.some.inj H
        obtain⟨DI,DJ,DK,Uw,DL,DN,DT,Ux⟩:=c4 pW
        go_wp2_with (first|(go_at_call 53;(with_reducible refine(bZ.calls dN false _ A28.out).mono ?_);rintro e w' ⟨rfl,⟨nd,rfl⟩⟩))
        go_ret
        exact⟨ze,zb HB⟩
     ·skip
      have c18b0:(aV==8)=false:=beq_eq_false_iff_ne.mpr c18
      have c18b1:(aV != 8)=true:=bne_iff_ne.mpr c18
      obtain rfl:=Option.some.inj H
      go_wp2
      go_ret
      exact⟨ze,zb HB⟩
def om.f(aV:ByteArray)(aA:ByteArray)(dN:Bool):Option (Int):=some (wrap64 ((wrap64 ((aV.size:Int)+(aA.size:Int)))+4))
theorem om.calls(aV:ByteArray)(aA:ByteArray)(dN:Bool)(r:Int)(w:World)(h:om.f aV aA dN=some r):
 Calls Tryz.prog 75 #[.agg #[.string aV,.string aA,.bool dN]] w fun e w'=>e= .returned (.int .i64 r)∧Below w.heap.size w w':=by
 have rZ:=Tryz.underlying89
 have HB:=ah.mk (Below.refl w.heap.size w)
 have H:(some (wrap64 ((wrap64 ((aV.size:Int)+(aA.size:Int)))+4)))=some r:=h
 clear h
 obtain rfl:=Option.some.inj H
 go_enter Tryz.func75,Tryz.ntmps75
 go_wp2_with (first|((with_reducible refine gd 1 rfl ?_);refine bx (N:=1) (cs:=#[.string aV,.string aA,.bool dN]) (t:=89) ?_;intro aKs hg w2 hbox hb;have ak4:=ah.mk (hbox);have ak5:=gw HB hg;have aKt:=ak5;replace HB:=ah.mk (ai (zb HB) hb);clear hb hbox hg;obtain⟨ZU,ZV,aBa,ZW,ZX,aBb⟩:=c3 ak4))
 go_ret
 exact⟨ze,zb HB⟩
def dx.l0:Nat→List (bg)→Int→Int→Option (Int)
 |0,_,_,_=>none
 |k+1,x0,x3,x4=>if x4<(x0.length:Int)then(if 0≤x4 then((om.f ((aT x0 x4).f0) ((aT x0 x4).f1) ((aT x0 x4).f2)).bind fun a7g=>(dx.l0 k x0 (wrap64 (x3+a7g)) (wrap64 (x4+1))))else(none))else(some x3)
def dx.f(k:Nat)(l0:List (bg)):Option (Int):=dx.l0 k l0 0 0
theorem dx.mono_l:∀k,(∀y0 y1 y2,gV (dx.l0 k y0 y1 y2) (dx.l0 (k+1) y0 y1 y2))
 |0=>fun _ _ _ r h=>by simp[dx.l0]at h
 |k+1=>by
  have ng:=dx.mono_l k
  ·intro y0 y1 y2
   unfold dx.l0
   exact zm
theorem dx.mono:∀a0 k,gV (dx.f k a0) (dx.f (k+1) a0):=by
 intro a0 k
 have ng:=dx.mono_l k
 unfold dx.f
 exact zm
theorem dx.calls(k:Nat)(A0:Option Addr)(c0:Nat)(l0:List (bg))(r:Int)(w:World)(hr0:Kd.C iF w A0 l0.length l0)(hc0:l0.length≤c0)(h:dx.f k l0=some r):
 Calls Tryz.prog 57 #[.slice A0 l0.length c0] w fun e w'=>e= .returned (.int .i64 r)∧Below w.heap.size w w':=by
 have rZ:=Tryz.underlying89
 have Gd:=ah.mk hr0
 have HC0:=ah.mk hc0
 clear hr0 hc0
 have HB:=ah.mk (Below.refl w.heap.size w)
 have H:(dx.l0 k l0 0 0)=some r:=h
 clear h
 have H':=ah.mk H
 clear H
 go_enter Tryz.func57,Tryz.ntmps57
 go_wp2
 go_loopg [3,4] k (fun kq v3 v4 w'=>∃(cO:Int)(eu:Int),v3= .int .i64 cO∧v4= .int .i64 eu∧ah (dx.l0 kq l0 cO eu=some r)∧ah (kq≤k)∧ah (Below w.heap.size w w'))
 case atStart=>exact⟨(0),(0),zs,zs,H',⟨Nat.le_refl _⟩,⟨zb HB⟩⟩
 case round=>
  clear H'
  obtain⟨cO,eu,rfl,rfl,HA,jc,HB⟩:=hrel
  cases gk with
  |zero=>exact absurd HA.out (by simp[dx.l0])
  |succ k1=>
   have H:=HA.out
   clear HA
   simp only[dx.l0]at H
   replace H:=sp H
   rcases H with⟨c2,H⟩|⟨c2,H⟩
   ·skip
    have c2b0:=decide_eq_true c2
    clear c2
    by_cases c3:0≤eu
    ·rw[if_pos c3]at H
     have c3b0:=decide_eq_true c3
     clear c3
     obtain⟨a7g,A4,H⟩:=ob H
     (try dsimp only at H)
     have H':=ah.mk H
     clear H
     have adU:0≤(eu:Int):=of_decide_eq_true za
     have adV:eu<(l0.length:Int):=of_decide_eq_true za
     obtain⟨aKu,e127,Uy,Uz,UA⟩:=eP Gd.out eu adU adV
     cases e127
     replace Uy:=pM Uy HB
     replace Uz:=pM Uz HB
     replace UA:=pM UA HB
     replace adU:=eq_true adU
     replace adV:=eq_true adV
     go_wp2_with (first|((with_reducible refine gq 75 rfl ?_);refine gl (some 16) Tryz.func75 #[.agg #[.string ((aT l0 eu).f0),.string ((aT l0 eu).f1),.bool ((aT l0 eu).f2)]] ?_;(with_reducible refine(om.calls ((aT l0 eu).f0) ((aT l0 eu).f1) ((aT l0 eu).f2) a7g _ A4.out).mono ?_);rintro e w5 ⟨rfl,hb⟩;refine⟨_,rfl,?_⟩;replace HB:=ah.mk (ai (zb HB) hb);(try clear hb)))
     go_roundg k1
     case measure=>have:=jc.out;omega
     case rel=>exact⟨(wrap64 (cO+a7g)),(wrap64 (eu+1)),zs,zs,H',⟨by have:=jc.out;omega⟩,⟨zb HB⟩⟩
    ·rw[if_neg c3]at H
     exact absurd H (by simp)
   ·skip
    have c2b0:=decide_eq_false c2
    clear c2
    obtain rfl:=Option.some.inj H
    go_wp2
    go_ret
    exact⟨ze,zb HB⟩
def eY.f(a0:Int)(a1:Int)(a2:Int):Option (Bool):=if a1≤a0 then(some (decide (a0≤a2)))else(some false)
theorem eY.calls(a0:Int)(a1:Int)(a2:Int)(r:Bool)(w:World)(h:eY.f a0 a1 a2=some r):
 Calls Tryz.prog 43 #[.int .i64 a0,.int .i64 a1,.int .i64 a2] w fun e w'=>e= .returned (.bool r)∧aZ w w':=by
 have H:(if a1≤a0 then(some (decide (a0≤a2)))else(some false))=some r:=h
 clear h
 replace H:=sp H
 rcases H with⟨c4,H⟩|⟨c4,H⟩
 ·skip
  have c4b0:=decide_eq_true c4
  clear c4
  obtain rfl:=Option.some.inj H
  go_enter Tryz.func43,Tryz.ntmps43
  go_wp2
  go_ret
  exact⟨zs,by repeat(first|exact aZ.refl _|apply aZ.step)⟩
 ·skip
  have c4b0:=decide_eq_false c4
  clear c4
  obtain rfl:=Option.some.inj H
  go_enter Tryz.func43,Tryz.ntmps43
  go_wp2
  go_ret
  exact⟨zs,by repeat(first|exact aZ.refl _|apply aZ.step)⟩
def gD.f(a0:Int):Option (Bool):=(eY.f a0 1 7).bind fun ZY=>(if ZY=true then(some ((Int.tmod a0 2)==1))else(some false))
theorem gD.calls(a0:Int)(r:Bool)(w:World)(h:gD.f a0=some r):
 Calls Tryz.prog 35 #[.int .i64 a0] w fun e w'=>e= .returned (.bool r)∧aZ w w':=by
 have H:((eY.f a0 1 7).bind fun ZY=>(if ZY=true then(some ((Int.tmod a0 2)==1))else(some false)))=some r:=h
 clear h
 obtain⟨ZY,A2,H⟩:=ob H
 (try dsimp only at H)
 by_cases c3:ZY=true
 ·subst c3
  rw[if_pos rfl]at H
  obtain rfl:=Option.some.inj H
  go_enter Tryz.func35,Tryz.ntmps35
  go_wp2_with (first|((with_reducible refine gq 43 rfl ?_);refine gl (some 4) Tryz.func43 #[.int .i64 a0,.int .i64 1,.int .i64 7] ?_;(with_reducible refine(eY.calls a0 1 7 true _ A2.out).mono ?_);rintro e w' ⟨rfl,⟨nd,rfl⟩⟩;refine⟨_,rfl,?_⟩))
  go_ret
  exact⟨zs,by repeat(first|exact aZ.refl _|apply aZ.step)⟩
 ·replace c3:=Bool.eq_false_iff.mpr c3
  subst c3
  rw[if_neg (show ¬(false=true) by decide)]at H
  obtain rfl:=Option.some.inj H
  go_enter Tryz.func35,Tryz.ntmps35
  go_wp2_with (first|((with_reducible refine gq 43 rfl ?_);refine gl (some 4) Tryz.func43 #[.int .i64 a0,.int .i64 1,.int .i64 7] ?_;(with_reducible refine(eY.calls a0 1 7 false _ A2.out).mono ?_);rintro e w' ⟨rfl,⟨nd,rfl⟩⟩;refine⟨_,rfl,?_⟩))
  go_ret
  exact⟨zs,by repeat(first|exact aZ.refl _|apply aZ.step)⟩
def kL.f(aV:Int)(aA:Int):Option (Bool):=(eY.f aV 0 31).bind fun a00=>(if a00=true then((eY.f aA 0 31).bind fun a01=>(some a01))else(some false))
theorem kL.calls(aV:Int)(aA:Int)(r:Bool)(w:World)(h:kL.f aV aA=some r):
 Calls Tryz.prog 41 #[.agg #[.int .i64 aV,.int .i64 aA]] w fun e w'=>e= .returned (.bool r)∧Below w.heap.size w w':=by
 have a3K:=Tryz.underlying28
 have HB:=ah.mk (Below.refl w.heap.size w)
 have H:((eY.f aV 0 31).bind fun a00=>(if a00=true then((eY.f aA 0 31).bind fun a01=>(some a01))else(some false)))=some r:=h
 clear h
 obtain⟨a00,A2,H⟩:=ob H
 (try dsimp only at H)
 by_cases c3:a00=true
 ·subst c3
  rw[if_pos rfl]at H
  obtain⟨a01,A4,H⟩:=ob H
  (try dsimp only at H)
  obtain rfl:=Option.some.inj H
  go_enter Tryz.func41,Tryz.ntmps41
  go_wp2_with (first|((with_reducible refine gd 1 rfl ?_);refine bx (N:=1) (cs:=#[.int .i64 aV,.int .i64 aA]) (t:=28) ?_;intro ak6 hg w5 hbox hb;have a02:=ah.mk (hbox);have a03:=gw HB hg;have ak7:=a03;replace HB:=ah.mk (ai (zb HB) hb);clear hb hbox hg;obtain⟨Ez,EA,QC,EB⟩:=c2 a02)|((with_reducible refine gq 43 rfl ?_);refine gl (some 5) Tryz.func43 #[.int .i64 aV,.int .i64 0,.int .i64 31] ?_;(with_reducible refine(eY.calls aV 0 31 true _ A2.out).mono ?_);rintro e w' ⟨rfl,⟨nd,rfl⟩⟩;refine⟨_,rfl,?_⟩)|(go_at_call 43;(with_reducible refine(eY.calls aA 0 31 a01 _ A4.out).mono ?_);rintro e w' ⟨rfl,⟨nd,rfl⟩⟩))
  go_ret
  exact⟨ze,zb HB⟩
 ·replace c3:=Bool.eq_false_iff.mpr c3
  subst c3
  rw[if_neg (show ¬(false=true) by decide)]at H
  obtain rfl:=Option.some.inj H
  go_enter Tryz.func41,Tryz.ntmps41
  go_wp2_with (first|((with_reducible refine gd 1 rfl ?_);refine bx (N:=1) (cs:=#[.int .i64 aV,.int .i64 aA]) (t:=28) ?_;intro ak6 hg w7 hbox hb;have a02:=ah.mk (hbox);have a03:=gw HB hg;have ak7:=a03;replace HB:=ah.mk (ai (zb HB) hb);clear hb hbox hg;obtain⟨Bq,Br,Bt,Bu⟩:=c2 a02)|((with_reducible refine gq 43 rfl ?_);refine gl (some 5) Tryz.func43 #[.int .i64 aV,.int .i64 0,.int .i64 31] ?_;(with_reducible refine(eY.calls aV 0 31 false _ A2.out).mono ?_);rintro e w' ⟨rfl,⟨nd,rfl⟩⟩;refine⟨_,rfl,?_⟩))
  go_ret
  exact⟨ze,zb HB⟩
def a04.lays137_ren:Go.Shelf.Ren:=⟨fun|137=>77|217=>85|266=>91|n=>n,fun|9=>9|5=>5|3=>3|n=>n,fun|n=>n⟩
theorem a04.lays137:Go.Proofs.Lays.n137 Tryz.prog a04.lays137_ren:={
 mixed:=by kernel_rfl
 f137:=Tryz.func77.trans (congrArg some (by kernel_rfl))
 f217:=Tryz.func85.trans (congrArg some (by kernel_rfl))
 f266:=Tryz.func91.trans (congrArg some (by kernel_rfl))
 t3:=Tryz.underlying3
 a3:=Tryz.isAgg3
 z3:=Tryz.sizeOf3
 v3:=Tryz.zeroValue3
 t5:=Tryz.underlying5
 a5:=Tryz.isAgg5
 z5:=Tryz.sizeOf5
 v5:=Tryz.zeroValue5
 t9:=Tryz.underlying9
 a9:=Tryz.isAgg9
 z9:=Tryz.sizeOf9
 v9:=Tryz.zeroValue9}
def strings_IndexByte.f(a0:ByteArray)(a1:Int):Option (Int):=some (Lib.indexByte a0.data.toList a1.toNat.toUInt8)
theorem strings_IndexByte.calls(a0:ByteArray)(a1:Int)(r:Int)(w:World)(h:strings_IndexByte.f a0 a1=some r):
 Calls Tryz.prog 77 #[.string a0,.int .u8 a1] w fun e w'=>e= .returned (.int .i64 r)∧aZ w w':=by
 simp only[strings_IndexByte.f,Option.some.injEq]at h
 subst h
 refine(Go.Proofs.Any.strings_IndexByte a04.lays137 a0 a1 w).mono ?_
 rintro e w' ⟨rfl,rfl⟩
 exact⟨rfl,aZ.refl _⟩
def bq.l0:Nat→ByteArray→Int→Int→Option (Bool)
 |0,_,_,_=>none
 |k+1,x0,x5,x6=>if x6<x5 then(if 0≤x6 then(if x6<(x0.size:Int)then((strings_IndexByte.f (⟨#[101,116,97,111,105,110,115,114,104,108,48,49,50,51,52,53,54,55,56,57,100,99,117,109,102,112,103,119,121,98,118,107,120,106,113,122,58,47,45]⟩:ByteArray) (bt x0 x6)).bind fun a05=>(if a05<0 then(some false)else(bq.l0 k x0 x5 (wrap64 (x6+1)))))else(none))else(none))else(some (decide ((x0.size:Int)≤16)))
def bq.f(k:Nat)(a0:ByteArray):Option (Bool):=bq.l0 k a0 (a0.size:Int) 0
theorem bq.mono_l:∀k,(∀y0 y1 y2,gV (bq.l0 k y0 y1 y2) (bq.l0 (k+1) y0 y1 y2))
 |0=>fun _ _ _ r h=>by simp[bq.l0]at h
 |k+1=>by
  have ng:=bq.mono_l k
  ·intro y0 y1 y2
   unfold bq.l0
   exact zm
theorem bq.mono:∀a0 k,gV (bq.f k a0) (bq.f (k+1) a0):=by
 intro a0 k
 have ng:=bq.mono_l k
 unfold bq.f
 exact zm
theorem bq.calls(k:Nat)(a0:ByteArray)(r:Bool)(w:World)(h:bq.f k a0=some r):
 Calls Tryz.prog 61 #[.string a0] w fun e w'=>e= .returned (.bool r)∧aZ w w':=by
 have H:(bq.l0 k a0 (a0.size:Int) 0)=some r:=h
 clear h
 have H':=ah.mk H
 clear H
 go_enter Tryz.func61,Tryz.ntmps61
 go_wp2
 go_loopg [6] k (fun kq v6 w'=>∃(iP:Int),v6= .int .i64 iP∧ah (bq.l0 kq a0 (a0.size:Int) iP=some r)∧ah (kq≤k)∧aZ w w')
 case atStart=>exact⟨(0),zs,H',⟨Nat.le_refl _⟩,by repeat(first|exact aZ.refl _|apply aZ.step)⟩
 case round=>
  clear H'
  obtain⟨iP,rfl,HA,jc,⟨m1,rfl⟩⟩:=hrel
  cases gk with
  |zero=>exact absurd HA.out (by simp[bq.l0])
  |succ k1=>
   have H:=HA.out
   clear HA
   simp only[bq.l0]at H
   replace H:=sp H
   rcases H with⟨c2,H⟩|⟨c2,H⟩
   ·skip
    have c2b0:=decide_eq_true c2
    clear c2
    by_cases c3:0≤iP
    ·rw[if_pos c3]at H
     have c3b0:=decide_eq_true c3
     clear c3
     by_cases c4:iP<(a0.size:Int)
     ·rw[if_pos c4]at H
      have c4b0:=decide_eq_true c4
      clear c4
      obtain⟨a05,A6,H⟩:=ob H
      (try dsimp only at H)
      by_cases c7:a05<0
      ·rw[if_pos c7]at H
       have c7b0:=decide_eq_true c7
       clear c7
       obtain rfl:=Option.some.inj H
       have p5:0≤(iP:Int):=of_decide_eq_true za
       have q5:iP<(a0.size:Int):=of_decide_eq_true za
       have hx5:=gB a0 iP
       replace p5:=eq_true p5
       replace q5:=eq_true q5
       go_wp2_with (first|((with_reducible refine gq 77 rfl ?_);refine gl (some 12) Tryz.func77 #[.string (⟨#[101,116,97,111,105,110,115,114,104,108,48,49,50,51,52,53,54,55,56,57,100,99,117,109,102,112,103,119,121,98,118,107,120,106,113,122,58,47,45]⟩:ByteArray),.int .u8 (bt a0 iP)] ?_;(with_reducible refine(strings_IndexByte.calls (⟨#[101,116,97,111,105,110,115,114,104,108,48,49,50,51,52,53,54,55,56,57,100,99,117,109,102,112,103,119,121,98,118,107,120,106,113,122,58,47,45]⟩:ByteArray) (bt a0 iP) a05 _ A6.out).mono ?_);rintro e w' ⟨rfl,⟨nd,rfl⟩⟩;refine⟨_,rfl,?_⟩))
       go_ret
       exact⟨zs,by repeat(first|exact aZ.refl _|apply aZ.step)⟩
      ·rw[if_neg c7]at H
       have c7b0:=decide_eq_false c7
       clear c7
       have H':=ah.mk H
       clear H
       have p5:0≤(iP:Int):=of_decide_eq_true za
       have q5:iP<(a0.size:Int):=of_decide_eq_true za
       have hx5:=gB a0 iP
       replace p5:=eq_true p5
       replace q5:=eq_true q5
       go_wp2_with (first|((with_reducible refine gq 77 rfl ?_);refine gl (some 12) Tryz.func77 #[.string (⟨#[101,116,97,111,105,110,115,114,104,108,48,49,50,51,52,53,54,55,56,57,100,99,117,109,102,112,103,119,121,98,118,107,120,106,113,122,58,47,45]⟩:ByteArray),.int .u8 (bt a0 iP)] ?_;(with_reducible refine(strings_IndexByte.calls (⟨#[101,116,97,111,105,110,115,114,104,108,48,49,50,51,52,53,54,55,56,57,100,99,117,109,102,112,103,119,121,98,118,107,120,106,113,122,58,47,45]⟩:ByteArray) (bt a0 iP) a05 _ A6.out).mono ?_);rintro e w' ⟨rfl,⟨nd,rfl⟩⟩;refine⟨_,rfl,?_⟩))
       go_roundg k1
       case measure=>have:=jc.out;omega
       case rel=>exact⟨(wrap64 (iP+1)),zs,H',⟨by have:=jc.out;omega⟩,by repeat(first|exact aZ.refl _|apply aZ.step)⟩
     ·rw[if_neg c4]at H
      exact absurd H (by simp)
    ·rw[if_neg c3]at H
     exact absurd H (by simp)
   ·skip
    have c2b0:=decide_eq_false c2
    clear c2
    obtain rfl:=Option.some.inj H
    go_wp2
    go_ret
    exact⟨zs,by repeat(first|exact aZ.refl _|apply aZ.step)⟩
def fK.f(k:Nat)(aV:ByteArray)(aA:ByteArray)(dN:Bool):Option (Bool):=(bq.f k aV).bind fun a06=>(if a06=true then((bq.f k aA).bind fun a07=>(if a07=true then(some (aV.toList != ([]:List UInt8)))else(some false)))else(some false))
theorem fK.mono:∀a0 a1 a2 k,gV (fK.f k a0 a1 a2) (fK.f (k+1) a0 a1 a2):=by
 intro a0 a1 a2 k
 unfold fK.f
 have m0:=@bq.mono
 exact zm
theorem fK.calls(k:Nat)(aV:ByteArray)(aA:ByteArray)(dN:Bool)(r:Bool)(w:World)(h:fK.f k aV aA dN=some r):
 Calls Tryz.prog 65 #[.agg #[.string aV,.string aA,.bool dN]] w fun e w'=>e= .returned (.bool r)∧Below w.heap.size w w':=by
 have rZ:=Tryz.underlying89
 have HB:=ah.mk (Below.refl w.heap.size w)
 have H:((bq.f k aV).bind fun a06=>(if a06=true then((bq.f k aA).bind fun a07=>(if a07=true then(some (aV.toList != ([]:List UInt8)))else(some false)))else(some false)))=some r:=h
 clear h
 obtain⟨a06,A2,H⟩:=ob H
 (try dsimp only at H)
 by_cases c3:a06=true
 ·subst c3
  rw[if_pos rfl]at H
  obtain⟨a07,A4,H⟩:=ob H
  (try dsimp only at H)
  by_cases c5:a07=true
  ·subst c5
   rw[if_pos rfl]at H
   obtain rfl:=Option.some.inj H
   go_enter Tryz.func65,Tryz.ntmps65
   go_wp2_with (first|((with_reducible refine gd 1 rfl ?_);refine bx (N:=1) (cs:=#[.string aV,.string aA,.bool dN]) (t:=89) ?_;intro ab6 hg w6 hbox hb;have ME:=ah.mk (hbox);have MF:=gw HB hg;have ab7:=MF;replace HB:=ah.mk (ai (zb HB) hb);clear hb hbox hg;obtain⟨yB,yC,a08,yD,yE,a09⟩:=c3 ME)|((with_reducible refine gq 61 rfl ?_);refine gl (some 5) Tryz.func61 #[.string aV] ?_;(with_reducible refine(bq.calls k aV true _ A2.out).mono ?_);rintro e w' ⟨rfl,⟨nd,rfl⟩⟩;refine⟨_,rfl,?_⟩)|(go_at_call 61;(with_reducible refine(bq.calls k aA true _ A4.out).mono ?_);rintro e w' ⟨rfl,⟨nd,rfl⟩⟩))
   go_ret
   exact⟨ze,zb HB⟩
  ·replace c5:=Bool.eq_false_iff.mpr c5
   subst c5
   rw[if_neg (show ¬(false=true) by decide)]at H
   obtain rfl:=Option.some.inj H
   go_enter Tryz.func65,Tryz.ntmps65
   go_wp2_with (first|((with_reducible refine gd 1 rfl ?_);refine bx (N:=1) (cs:=#[.string aV,.string aA,.bool dN]) (t:=89) ?_;intro ab6 hg w8 hbox hb;have ME:=ah.mk (hbox);have MF:=gw HB hg;have ab7:=MF;replace HB:=ah.mk (ai (zb HB) hb);clear hb hbox hg;obtain⟨yj,yo,Bv,yt,yu,Bw⟩:=c3 ME)|((with_reducible refine gq 61 rfl ?_);refine gl (some 5) Tryz.func61 #[.string aV] ?_;(with_reducible refine(bq.calls k aV true _ A2.out).mono ?_);rintro e w' ⟨rfl,⟨nd,rfl⟩⟩;refine⟨_,rfl,?_⟩)|(go_at_call 61;(with_reducible refine(bq.calls k aA false _ A4.out).mono ?_);rintro e w' ⟨rfl,⟨nd,rfl⟩⟩))
   go_ret
   exact⟨ze,zb HB⟩
 ·replace c3:=Bool.eq_false_iff.mpr c3
  subst c3
  rw[if_neg (show ¬(false=true) by decide)]at H
  obtain rfl:=Option.some.inj H
  go_enter Tryz.func65,Tryz.ntmps65
  go_wp2_with (first|((with_reducible refine gd 1 rfl ?_);refine bx (N:=1) (cs:=#[.string aV,.string aA,.bool dN]) (t:=89) ?_;intro ab6 hg w10 hbox hb;have ME:=ah.mk (hbox);have MF:=gw HB hg;have ab7:=MF;replace HB:=ah.mk (ai (zb HB) hb);clear hb hbox hg;obtain⟨Tw,Tx,a3L,Ty,Tz,a3M⟩:=c3 ME)|((with_reducible refine gq 61 rfl ?_);refine gl (some 5) Tryz.func61 #[.string aV] ?_;(with_reducible refine(bq.calls k aV false _ A2.out).mono ?_);rintro e w' ⟨rfl,⟨nd,rfl⟩⟩;refine⟨_,rfl,?_⟩))
  go_ret
  exact⟨ze,zb HB⟩
def gT.f(k:Nat)(aV:ByteArray)(aA:ByteArray)(dN:Bool):Option (Bool):=(fK.f k aV aA dN).bind fun a0a=>(if a0a=true then(some dN)else(some true))
theorem gT.mono:∀a0 a1 a2 k,gV (gT.f k a0 a1 a2) (gT.f (k+1) a0 a1 a2):=by
 intro a0 a1 a2 k
 unfold gT.f
 have m0:=@fK.mono
 exact zm
theorem gT.calls(k:Nat)(aV:ByteArray)(aA:ByteArray)(dN:Bool)(r:Bool)(w:World)(h:gT.f k aV aA dN=some r):
 Calls Tryz.prog 64 #[.agg #[.string aV,.string aA,.bool dN]] w fun e w'=>e= .returned (.bool r)∧Below w.heap.size w w':=by
 have rZ:=Tryz.underlying89
 have HB:=ah.mk (Below.refl w.heap.size w)
 have H:((fK.f k aV aA dN).bind fun a0a=>(if a0a=true then(some dN)else(some true)))=some r:=h
 clear h
 obtain⟨a0a,A2,H⟩:=ob H
 (try dsimp only at H)
 by_cases c3:a0a=true
 ·subst c3
  rw[if_pos rfl]at H
  obtain rfl:=Option.some.inj H
  go_enter Tryz.func64,Tryz.ntmps64
  go_wp2_with (first|((with_reducible refine gd 1 rfl ?_);refine bx (N:=1) (cs:=#[.string aV,.string aA,.bool dN]) (t:=89) ?_;intro ak8 hg w4 hbox hb;have Cu:=ah.mk (hbox);have a0b:=gw HB hg;have ak9:=a0b;replace HB:=ah.mk (ai (zb HB) hb);clear hb hbox hg;obtain⟨adW,adX,aBd,adY,adZ,aBe⟩:=c3 Cu)|((with_reducible refine gq 65 rfl ?_);refine gl (some 4) Tryz.func65 #[.agg #[.string aV,.string aA,.bool dN]] ?_;(with_reducible refine(fK.calls k aV aA dN true _ A2.out).mono ?_);rintro e w6 ⟨rfl,hb⟩;refine⟨_,rfl,?_⟩;replace Cu:=kb Cu hb;replace HB:=ah.mk (ai (zb HB) hb);(try clear hb);obtain⟨yB,yC,a08,yD,yE,a09⟩:=c3 Cu))
  go_ret
  exact⟨ze,zb HB⟩
 ·replace c3:=Bool.eq_false_iff.mpr c3
  subst c3
  rw[if_neg (show ¬(false=true) by decide)]at H
  obtain rfl:=Option.some.inj H
  go_enter Tryz.func64,Tryz.ntmps64
  go_wp2_with (first|((with_reducible refine gd 1 rfl ?_);refine bx (N:=1) (cs:=#[.string aV,.string aA,.bool dN]) (t:=89) ?_;intro ak8 hg w8 hbox hb;have Cu:=ah.mk (hbox);have a0b:=gw HB hg;have ak9:=a0b;replace HB:=ah.mk (ai (zb HB) hb);clear hb hbox hg;obtain⟨yj,yo,Bv,yt,yu,Bw⟩:=c3 Cu)|((with_reducible refine gq 65 rfl ?_);refine gl (some 4) Tryz.func65 #[.agg #[.string aV,.string aA,.bool dN]] ?_;(with_reducible refine(fK.calls k aV aA dN false _ A2.out).mono ?_);rintro e w10 ⟨rfl,hb⟩;refine⟨_,rfl,?_⟩;replace Cu:=kb Cu hb;replace HB:=ah.mk (ai (zb HB) hb);(try clear hb)))
  go_ret
  exact⟨ze,zb HB⟩
def iD.f(k:Nat)(aV:ByteArray)(aA:ByteArray)(dN:Bool):Option (Bool):=(fK.f k aV aA dN).bind fun a0c=>(some (!a0c))
theorem iD.mono:∀a0 a1 a2 k,gV (iD.f k a0 a1 a2) (iD.f (k+1) a0 a1 a2):=by
 intro a0 a1 a2 k
 unfold iD.f
 have m0:=@fK.mono
 exact zm
theorem iD.calls(k:Nat)(aV:ByteArray)(aA:ByteArray)(dN:Bool)(r:Bool)(w:World)(h:iD.f k aV aA dN=some r):
 Calls Tryz.prog 76 #[.agg #[.string aV,.string aA,.bool dN]] w fun e w'=>e= .returned (.bool r)∧Below w.heap.size w w':=by
 have rZ:=Tryz.underlying89
 have HB:=ah.mk (Below.refl w.heap.size w)
 have H:((fK.f k aV aA dN).bind fun a0c=>(some (!a0c)))=some r:=h
 clear h
 obtain⟨a0c,A2,H⟩:=ob H
 (try dsimp only at H)
 obtain rfl:=Option.some.inj H
 go_enter Tryz.func76,Tryz.ntmps76
 go_wp2_with (first|((with_reducible refine gd 1 rfl ?_);refine bx (N:=1) (cs:=#[.string aV,.string aA,.bool dN]) (t:=89) ?_;intro aKv hg w3 hbox hb;have a0d:=ah.mk (hbox);have akb:=gw HB hg;have aKw:=akb;replace HB:=ah.mk (ai (zb HB) hb);clear hb hbox hg;obtain⟨um,uo,yw,yx,uq,yA⟩:=c3 a0d)|((with_reducible refine gq 65 rfl ?_);refine gl (some 4) Tryz.func65 #[.agg #[.string aV,.string aA,.bool dN]] ?_;(with_reducible refine(fK.calls k aV aA dN a0c _ A2.out).mono ?_);rintro e w5 ⟨rfl,hb⟩;refine⟨_,rfl,?_⟩;replace a0d:=kb a0d hb;replace HB:=ah.mk (ai (zb HB) hb);(try clear hb)))
 go_ret
 exact⟨ze,zb HB⟩
def idxFrom(p:bg→Option Bool):List (bg)→Int→Option Int
 |[],_=>some (-1)
 |x::l,i=>(p x).bind fun b=>if b then some i else idxFrom p l (i+1)
def QF(P:Program)(g:Nat)(lb:Array Value)(p:bg→Option Bool)(w:World):Prop:=
 ∀(W:World)(x:bg)(b:Bool),Below w.heap.size w W→p x=some b→Calls P g (#[.agg #[.string x.f0,.string x.f1,.bool x.f2]]++lb) W fun e w'=>e= .returned (.bool b)∧Below w.heap.size w w'
theorem CZ(g:Nat)(lb:Array Value)(p:bg→Option Bool)(eg:∀args w,(callFunc g args).run Tryz.prog w= .ok (.enter g args) w)(A0:Option Addr)(c0:Nat)(l0:List (bg))(r:Int)(w:World)(hr0:Kd.C iF w A0 l0.length l0)(hc0:l0.length≤c0)
 (hp:QF Tryz.prog g lb p w)(h:idxFrom p l0 0=some r)(hl:l0.length≤1000000000):
 Calls Tryz.prog 78 #[.slice A0 l0.length c0,.func (.func g) #[] lb] w fun e w'=>e= .returned (.int .i64 r)∧Below w.heap.size w w':=by
 have Gd:=ah.mk hr0
 have HP:=ah.mk hp
 have H:=ah.mk h
 clear hr0 hp h
 go_enter Tryz.func78,Tryz.ntmps78
 go_wp2
 go_loopg [5,8] (l0.length) (fun kq v5 v8 w'=>∃i:Nat,v8= .int .i64 i∧ah (kq+i=l0.length)∧ah (idxFrom p (l0.drop i) i=some r)∧ah (Below w.heap.size w w'))
 case atStart=>exact⟨0,rfl,⟨by omega⟩,⟨by simpa using H.out⟩,⟨Below.refl _ _⟩⟩
 case round=>
  obtain⟨i,rfl,HK,HX,HB⟩:=hrel
  have hk:=HK.out
  by_cases hj:i<l0.length
  ·have h0:(0:Int)≤(i:Int):=by omega
   have h1:(i:Int)<(l0.length:Int):=by omega
   obtain⟨x,hx⟩:∃x,l0[i]?=some x:=⟨_,List.getElem?_eq_getElem hj⟩
   have hdrop:l0.drop i=x::l0.drop (i+1):=by
    rw[List.drop_eq_getElem_cons hj]
    rw[List.getElem?_eq_getElem hj]at hx
    rw[Option.some.inj hx]
   obtain⟨_,_,hrd⟩:=Kd.C_below Gd.out HB.out
   obtain⟨ad,e1,hcell⟩:=hrd (by omega)
   obtain⟨c,hc1,hc2,hc3⟩:=hcell i x hx
   have hc4:=Ml hc2
   subst hc4
   subst e1
   have q0:wr.cell? (ad.add (i*3))=some (.string x.f0):=by have h9:=hc3 0 _ rfl;exact h9
   have q1:wr.cell? ⟨(ad.add (i*3)).block,(ad.add (i*3)).off+1,none⟩=some (.string x.f1):=by have h9:=hc3 1 _ rfl;rw[←Go.Addr.add_add]at h9;exact h9
   have q2:wr.cell? ⟨(ad.add (i*3)).block,(ad.add (i*3)).off+2,none⟩=some (.bool x.f2):=by have h9:=hc3 2 _ rfl;rw[←Go.Addr.add_add]at h9;exact h9
   have hX:=HX.out
   rw[hdrop,idxFrom]at hX
   obtain⟨b,hb1,hb2⟩:=Option.bind_eq_some_iff.1 hX
   have hcall:=HP.out wr x b HB.out hb1
   have HX2:=ah.mk hb2
   cases gk with
   |zero=>omega
   |succ k1=>
   clear hk hX hb2 hrd hcell hc1 hc2 hc3 hdrop
   cases b with
   |true=>
    go_wp2_with (go_at_fn g;refine hcall.mono ?_;rintro e w' ⟨rfl,hb'⟩)
    go_ret
    have h9:some (i:Int)=some r:=by simpa using HX2.out
    exact⟨by rw[←Option.some.inj h9];rfl,hb'⟩
   |false=>
    go_wp2_with (go_at_fn g;refine hcall.mono ?_;rintro e w' ⟨rfl,hb'⟩)
    go_roundg k1
    case measure=>have:=HK.out;omega
    case rel=>
     refine⟨i+1,by go_num,⟨by have:=HK.out;omega⟩,⟨?_⟩,⟨hb'⟩⟩
     have h9:=HX2.out
     rw[if_neg (by decide)]at h9
     rw[show((i+1:Nat):Int)=(i:Int)+1 by omega]
     exact h9
  ·have e:i=l0.length:=by omega
   have hltz:¬(i:Int)<(l0.length:Int):=by omega
   clear hk hj
   have HE:=ah.mk e
   clear e
   go_wp2
   go_ret
   have e:=HE.out
   subst e
   have hX:=HX.out
   rw[List.drop_length,idxFrom]at hX
   exact⟨by rw[←Option.some.inj hX];rfl,HB.out⟩
theorem yF(g:Nat)(lb:Array Value)(p:bg→Option Bool)(eg:∀args w,(callFunc g args).run Tryz.prog w= .ok (.enter g args) w)(A0:Option Addr)(c0:Nat)(l0:List (bg))(r:Int)(w:World)(hr0:Kd.C iF w A0 l0.length l0)(hc0:l0.length≤c0)
 (hp:QF Tryz.prog g lb p w)(h:idxFrom p l0 0=some r)(hl:l0.length≤1000000000):
 Calls Tryz.prog 63 #[.slice A0 l0.length c0,.func (.func g) #[] lb] w fun e w'=>e= .returned (.bool (decide (0≤r)))∧Below w.heap.size w w':=by
 go_enter Tryz.func63,Tryz.ntmps63
 go_wp2_with (go_at_call 78;refine(CZ g lb p eg A0 c0 l0 r _ hr0 hc0 hp h hl).mono ?_;rintro e w' ⟨rfl,hb'⟩)
 go_ret
 exact⟨rfl,hb'⟩
def aC.p(k:Nat)(g:Nat)(x:bg):Option Bool:=if g=64 then gT.f k x.f0 x.f1 x.f2 else if g=76 then iD.f k x.f0 x.f1 x.f2 else none
def aC.known(g:Nat):Prop:=g=64∨g=76∨False
instance(g:Nat):Decidable (aC.known g):=by unfold aC.known;infer_instance
def aC.f(k:Nat)(l0:List (bg))(a1:Nat):Option Bool:=
 if l0.length≤1000000000∧aC.known a1 then(idxFrom (aC.p k a1) l0 0).bind fun r=>some (decide (0≤r))else none
theorem zA{p q:bg→Option Bool}(hpq:∀x,gV (p x) (q x)):∀(l:List (bg))(i:Int),gV (idxFrom p l i) (idxFrom q l i)
 |[],_=>fun r h=>h
 |x::l,i=>by
  intro r h
  unfold idxFrom at h ⊢
  obtain⟨b,hb,hr⟩:=Option.bind_eq_some_iff.1 h
  rw[hpq x b hb]
  simp only[Option.bind_some]
  cases b with
  |true=>exact hr
  |false=>exact zA hpq l (i+1) r hr
theorem aC.p_mono(k g:Nat)(x:bg):gV (aC.p k g x) (aC.p (k+1) g x):=by
 unfold aC.p
 refine gV.ite (gT.mono _ _ _ _) ?_
 refine gV.ite (iD.mono _ _ _ _) ?_
 exact gV.refl _
theorem aC.mono:∀a0 a1 k,gV (aC.f k a0 a1) (aC.f (k+1) a0 a1):=by
 intro a0 a1 k
 unfold aC.f
 refine gV.ite ?_ (gV.refl _)
 exact gV.bind (zA (fun x=>aC.p_mono k a1 x) a0 0) (fun _=>gV.refl _)
theorem aC.enters(a1:Nat)(h:aC.known a1):∀args w,(callFunc a1 args).run Tryz.prog w= .ok (.enter a1 args) w:=by
 unfold aC.known at h
 rcases h with e|h
 ·subst e;exact enters_of Tryz.func64 (by kernel_rfl) rfl
 rcases h with e|h
 ·subst e;exact enters_of Tryz.func76 (by kernel_rfl) rfl
 cases h
theorem aC.pred(k a1:Nat)(w:World):QF Tryz.prog a1 #[] (aC.p k a1) w:=by
 intro W x b hW h
 unfold aC.p at h
 split at h
 ·rename_i e;subst e;rw[Array.append_empty];exact(gT.calls k x.f0 x.f1 x.f2 b W h).mono fun e w2 h2=>⟨h2.1,ai hW h2.2⟩
 split at h
 ·rename_i e;subst e;rw[Array.append_empty];exact(iD.calls k x.f0 x.f1 x.f2 b W h).mono fun e w2 h2=>⟨h2.1,ai hW h2.2⟩
 cases h
theorem aC.calls(k:Nat)(A0:Option Addr)(c0:Nat)(l0:List (bg))(a1:Nat)(r:Bool)(w:World)(hr0:Kd.C iF w A0 l0.length l0)(hc0:l0.length≤c0)(h:aC.f k l0 a1=some r):
 Calls Tryz.prog 63 #[.slice A0 l0.length c0,.func (.func a1) #[] #[]] w fun e w'=>e= .returned (.bool r)∧Below w.heap.size w w':=by
 unfold aC.f at h
 split at h
 case isFalse=>cases h
 rename_i hl
 obtain⟨i,hi,hr⟩:=Option.bind_eq_some_iff.1 h
 obtain rfl:=Option.some.inj hr
 exact yF a1 #[] _ (aC.enters a1 hl.2) A0 c0 _ i w hr0 hc0 (aC.pred k a1 w) hi hl.1
def eB.f(k:Nat)(l0:List (bg)):Option (Bool):=if(l0.length:Int)≤6 then((aC.f k l0 76).bind fun a0e=>(some (!a0e)))else(some false)
theorem eB.mono:∀a0 k,gV (eB.f k a0) (eB.f (k+1) a0):=by
 intro a0 k
 unfold eB.f
 have m0:=@aC.mono
 exact zm
theorem eB.calls(k:Nat)(A0:Option Addr)(c0:Nat)(l0:List (bg))(r:Bool)(w:World)(hr0:Kd.C iF w A0 l0.length l0)(hc0:l0.length≤c0)(h:eB.f k l0=some r):
 Calls Tryz.prog 60 #[.slice A0 l0.length c0] w fun e w'=>e= .returned (.bool r)∧Below w.heap.size w w':=by
 have Gd:=ah.mk hr0
 have HC0:=ah.mk hc0
 clear hr0 hc0
 have HB:=ah.mk (Below.refl w.heap.size w)
 have H:(if(l0.length:Int)≤6 then((aC.f k l0 76).bind fun a0e=>(some (!a0e)))else(some false))=some r:=h
 clear h
 replace H:=sp H
 rcases H with⟨c2,H⟩|⟨c2,H⟩
 ·skip
  have c2b0:=decide_eq_true c2
  have c2b1:=decide_eq_true (by omega)
  clear c2
  obtain⟨a0e,A3,H⟩:=ob H
  (try dsimp only at H)
  obtain rfl:=Option.some.inj H
  go_enter Tryz.func60,Tryz.ntmps60
  go_wp2_with (first|(go_at_call 63;(with_reducible refine(aC.calls k _ _ l0 76 a0e _ ?aN ?aQ A3.out).mono ?_);(case aN=>exact zc Gd.out);(case aQ=>exact HC0.out);rintro e w4 ⟨rfl,hb⟩;replace HB:=ah.mk (ai (zb HB) hb);(try clear hb)))
  go_ret
  exact⟨ze,zb HB⟩
 ·skip
  have c2b0:=decide_eq_false c2
  have c2b1:=decide_eq_false (by omega)
  clear c2
  obtain rfl:=Option.some.inj H
  go_enter Tryz.func60,Tryz.ntmps60
  go_wp2
  go_ret
  exact⟨ze,zb HB⟩
def jg.f(k:Nat)(aV:Int)(aA:Int)(jo:List (bg))(cB:ByteArray)(lI:Bool)(lJ:Bool)(lU:Int)(j4:List (bg))(jf:ByteArray)(nu:Bool)(gW:Int)(j5:Int):Option (Bool):=(eY.f aA 1 3).bind fun a0f=>(if a0f=true then((eB.f k jo).bind fun a0g=>(if a0g=true then((eB.f k j4).bind fun a0h=>(if a0h=true then((bq.f k cB).bind fun a0i=>(if a0i=true then((bq.f k jf).bind fun a0j=>(if a0j=true then((eY.f lU 0 (cB.size:Int)).bind fun a0k=>(if a0k=true then((kL.f gW j5).bind fun a0l=>(some a0l))else(some false)))else(some false)))else(some false)))else(some false)))else(some false)))else(some false))
theorem jg.mono:∀a0 a1 a2 a3 a4 a5 a6 a7 a8 a9 Mw QD k,gV (jg.f k a0 a1 a2 a3 a4 a5 a6 a7 a8 a9 Mw QD) (jg.f (k+1) a0 a1 a2 a3 a4 a5 a6 a7 a8 a9 Mw QD):=by
 intro a0 a1 a2 a3 a4 a5 a6 a7 a8 a9 Mw QD k
 unfold jg.f
 have m0:=@eB.mono
 have m1:=@bq.mono
 exact zm
theorem jg.calls(k:Nat)(aV:Int)(aA:Int)(qc:Option Addr)(qd:Nat)(jo:List (bg))(cB:ByteArray)(lI:Bool)(lJ:Bool)(lU:Int)(sP:Option Addr)(sQ:Nat)(j4:List (bg))(jf:ByteArray)(nu:Bool)(gW:Int)(j5:Int)(r:Bool)(w:World)(Cs:Kd.C iF w qc jo.length jo)(Ct:jo.length≤qd)(Mx:Kd.C iF w sP j4.length j4)(MB:j4.length≤sQ)(h:jg.f k aV aA jo cB lI lJ lU j4 jf nu gW j5=some r):
 Calls Tryz.prog 36 #[.agg #[.int .i64 aV,.int .i64 aA,.slice qc jo.length qd,.string cB,.bool lI,.bool lJ,.int .i64 lU,.slice sP j4.length sQ,.string jf,.bool nu,.int .i64 gW,.int .i64 j5]] w fun e w'=>e= .returned (.bool r)∧Below w.heap.size w w':=by
 have adN:=Tryz.underlying39
 have a3K:=Tryz.underlying28
 have rA:=ah.mk Cs
 have rD:=ah.mk Ct
 clear Cs Ct
 have vE:=ah.mk Mx
 have vF:=ah.mk MB
 clear Mx MB
 have HB:=ah.mk (Below.refl w.heap.size w)
 have H:((eY.f aA 1 3).bind fun a0f=>(if a0f=true then((eB.f k jo).bind fun a0g=>(if a0g=true then((eB.f k j4).bind fun a0h=>(if a0h=true then((bq.f k cB).bind fun a0i=>(if a0i=true then((bq.f k jf).bind fun a0j=>(if a0j=true then((eY.f lU 0 (cB.size:Int)).bind fun a0k=>(if a0k=true then((kL.f gW j5).bind fun a0l=>(some a0l))else(some false)))else(some false)))else(some false)))else(some false)))else(some false)))else(some false)))=some r:=h
 clear h
 obtain⟨a0f,A2,H⟩:=ob H
 (try dsimp only at H)
 by_cases c3:a0f=true
 ·subst c3
  rw[if_pos rfl]at H
  obtain⟨a0g,A4,H⟩:=ob H
  (try dsimp only at H)
  by_cases c5:a0g=true
  ·subst c5
   rw[if_pos rfl]at H
   obtain⟨a0h,A6,H⟩:=ob H
   (try dsimp only at H)
   by_cases c7:a0h=true
   ·subst c7
    rw[if_pos rfl]at H
    obtain⟨a0i,A8,H⟩:=ob H
    (try dsimp only at H)
    by_cases c9:a0i=true
    ·subst c9
     rw[if_pos rfl]at H
     obtain⟨a0j,Qb,H⟩:=ob H
     (try dsimp only at H)
     by_cases c11:a0j=true
     ·subst c11
      rw[if_pos rfl]at H
      obtain⟨a0k,Xi,H⟩:=ob H
      (try dsimp only at H)
      by_cases c13:a0k=true
      ·subst c13
       rw[if_pos rfl]at H
       obtain⟨a0l,A14,H⟩:=ob H
       (try dsimp only at H)
       obtain rfl:=Option.some.inj H
       go_enter Tryz.func36,Tryz.ntmps36
       go_wp2_with (first|((with_reducible refine gd 1 rfl ?_);(try(refine aM (by rfl) ?_;dsimp only));refine bx (N:=1) (cs:=#[.int .i64 aV,.int .i64 aA,.slice qc jo.length qd,.string cB,.bool lI,.bool lJ,.int .i64 lU,.slice sP j4.length sQ,.string jf,.bool nu,.int .i64 gW,.int .i64 j5]) (t:=39) ?_;intro GJ hg w15 hbox hb;have gX:=ah.mk (hbox);have sS:=gw HB hg;have GK:=sS;replace HB:=ah.mk (ai (zb HB) hb);clear hb hbox hg;obtain⟨JA,JB,Ur,Us,a7h,a7i,a7j,a7k,a7l,a7m,a0m,a0n,JC,JD,Ut,Uu,a7n,a7o,a7p,a7q,a7r,a7s,a0o,a0p⟩:=c12 gX)|((with_reducible refine gq 43 rfl ?_);refine gl (some 5) Tryz.func43 #[.int .i64 aA,.int .i64 1,.int .i64 3] ?_;(with_reducible refine(eY.calls aA 1 3 true _ A2.out).mono ?_);rintro e w' ⟨rfl,⟨nd,rfl⟩⟩;refine⟨_,rfl,?_⟩)|(go_at_call 60;(with_reducible refine(eB.calls k _ _ jo true _ ?aN ?aQ A4.out).mono ?_);(case aN=>exact(Kd.C_below rA.out (zb HB)));(case aQ=>exact rD.out);rintro e w17 ⟨rfl,hb⟩;replace gX:=kb gX hb;replace HB:=ah.mk (ai (zb HB) hb);(try clear hb);obtain⟨TG,TH,a3P,a3Q,a3R,a3S,a3T,a3U,a3V,a3W,Z0,Z4,TI,TJ,a3X,a3Y,a3Z,a4a,a4b,a4c,a4d,a4e,Z5,Z6⟩:=c12 gX)|(go_at_call 60;(with_reducible refine(eB.calls k _ _ j4 true _ ?aN ?aQ A6.out).mono ?_);(case aN=>exact zc (Kd.C_below vE.out HB.out));(case aQ=>exact vF.out);rintro e w19 ⟨rfl,hb⟩;replace gX:=kb gX hb;replace HB:=ah.mk (ai (zb HB) hb);(try clear hb);obtain⟨TK,TL,a4f,a4g,a4h,a4i,a4j,a4k,a4l,a4m,Z7,Z8,TM,TN,a4n,a4o,a4p,a4q,a4r,a4s,a4t,a4u,Z9,Za⟩:=c12 gX)|(go_at_call 61;(with_reducible refine(bq.calls k cB true _ A8.out).mono ?_);rintro e w' ⟨rfl,⟨nd,rfl⟩⟩)|(go_at_call 61;(with_reducible refine(bq.calls k jf true _ Qb.out).mono ?_);rintro e w' ⟨rfl,⟨nd,rfl⟩⟩)|(go_at_call 43;(with_reducible refine(eY.calls lU 0 (cB.size:Int) true _ Xi.out).mono ?_);rintro e w' ⟨rfl,⟨nd,rfl⟩⟩)|(go_at_call 41;(with_reducible refine(kL.calls gW j5 a0l _ A14.out).mono ?_);rintro e w21 ⟨rfl,hb⟩;replace gX:=kb gX hb;replace HB:=ah.mk (ai (zb HB) hb);(try clear hb)))
       go_ret
       exact⟨ze,zb HB⟩
      ·replace c13:=Bool.eq_false_iff.mpr c13
       subst c13
       rw[if_neg (show ¬(false=true) by decide)]at H
       obtain rfl:=Option.some.inj H
       go_enter Tryz.func36,Tryz.ntmps36
       go_wp2_with (first|((with_reducible refine gd 1 rfl ?_);(try(refine aM (by rfl) ?_;dsimp only));refine bx (N:=1) (cs:=#[.int .i64 aV,.int .i64 aA,.slice qc jo.length qd,.string cB,.bool lI,.bool lJ,.int .i64 lU,.slice sP j4.length sQ,.string jf,.bool nu,.int .i64 gW,.int .i64 j5]) (t:=39) ?_;intro GJ hg w22 hbox hb;have gX:=ah.mk (hbox);have sS:=gw HB hg;have GK:=sS;replace HB:=ah.mk (ai (zb HB) hb);clear hb hbox hg;obtain⟨JN,JO,UB,asx,asy,asz,asA,asB,asC,asD,akd,ake,JP,JQ,UC,asE,asF,asG,asH,asI,asJ,asK,akf,akg⟩:=c12 gX)|((with_reducible refine gq 43 rfl ?_);refine gl (some 5) Tryz.func43 #[.int .i64 aA,.int .i64 1,.int .i64 3] ?_;(with_reducible refine(eY.calls aA 1 3 true _ A2.out).mono ?_);rintro e w' ⟨rfl,⟨nd,rfl⟩⟩;refine⟨_,rfl,?_⟩)|(go_at_call 60;(with_reducible refine(eB.calls k _ _ jo true _ ?aN ?aQ A4.out).mono ?_);(case aN=>exact(Kd.C_below rA.out (zb HB)));(case aQ=>exact rD.out);rintro e w24 ⟨rfl,hb⟩;replace gX:=kb gX hb;replace HB:=ah.mk (ai (zb HB) hb);(try clear hb);obtain⟨TU,TY,U0,U1,a4x,a4y,a4z,a4A,a4B,a4C,Zb,Zc,U2,U3,U4,U5,a4D,a4E,a4F,a4G,a4H,a4I,Zd,Ze⟩:=c12 gX)|(go_at_call 60;(with_reducible refine(eB.calls k _ _ j4 true _ ?aN ?aQ A6.out).mono ?_);(case aN=>exact zc (Kd.C_below vE.out HB.out));(case aQ=>exact vF.out);rintro e w26 ⟨rfl,hb⟩;replace gX:=kb gX hb;replace HB:=ah.mk (ai (zb HB) hb);(try clear hb);obtain⟨IV,IW,IX,IY,a4J,a4K,a4L,a4M,a4N,a4O,Zf,Zg,IZ,J2,J3,J4,a4P,a4Q,a4R,a4S,a4T,a4U,Zh,Zi⟩:=c12 gX)|(go_at_call 61;(with_reducible refine(bq.calls k cB true _ A8.out).mono ?_);rintro e w' ⟨rfl,⟨nd,rfl⟩⟩)|(go_at_call 61;(with_reducible refine(bq.calls k jf true _ Qb.out).mono ?_);rintro e w' ⟨rfl,⟨nd,rfl⟩⟩)|(go_at_call 43;(with_reducible refine(eY.calls lU 0 (cB.size:Int) false _ Xi.out).mono ?_);rintro e w' ⟨rfl,⟨nd,rfl⟩⟩))
       go_ret
       exact⟨ze,zb HB⟩
     ·replace c11:=Bool.eq_false_iff.mpr c11
      subst c11
      rw[if_neg (show ¬(false=true) by decide)]at H
      obtain rfl:=Option.some.inj H
      go_enter Tryz.func36,Tryz.ntmps36
      go_wp2_with (first|((with_reducible refine gd 1 rfl ?_);(try(refine aM (by rfl) ?_;dsimp only));refine bx (N:=1) (cs:=#[.int .i64 aV,.int .i64 aA,.slice qc jo.length qd,.string cB,.bool lI,.bool lJ,.int .i64 lU,.slice sP j4.length sQ,.string jf,.bool nu,.int .i64 gW,.int .i64 j5]) (t:=39) ?_;intro GJ hg w28 hbox hb;have gX:=ah.mk (hbox);have sS:=gw HB hg;have GK:=sS;replace HB:=ah.mk (ai (zb HB) hb);clear hb hbox hg;obtain⟨J5,J6,J7,U6,a4V,a4W,a4X,a4Y,a4Z,a5a,Zj,Zk,J8,J9,Ja,U7,a5b,a5c,a5d,a5e,a5f,a5g,Zl,Zm⟩:=c12 gX)|((with_reducible refine gq 43 rfl ?_);refine gl (some 5) Tryz.func43 #[.int .i64 aA,.int .i64 1,.int .i64 3] ?_;(with_reducible refine(eY.calls aA 1 3 true _ A2.out).mono ?_);rintro e w' ⟨rfl,⟨nd,rfl⟩⟩;refine⟨_,rfl,?_⟩)|(go_at_call 60;(with_reducible refine(eB.calls k _ _ jo true _ ?aN ?aQ A4.out).mono ?_);(case aN=>exact(Kd.C_below rA.out (zb HB)));(case aQ=>exact rD.out);rintro e w30 ⟨rfl,hb⟩;replace gX:=kb gX hb;replace HB:=ah.mk (ai (zb HB) hb);(try clear hb);obtain⟨Dl,Dm,Dn,U8,a5h,a5i,a5j,a5k,a5l,a5m,Zn,Zo,Dp,Dq,Dr,U9,a5n,a5o,a5p,a5q,a5r,a5s,Zp,Zq⟩:=c12 gX)|(go_at_call 60;(with_reducible refine(eB.calls k _ _ j4 true _ ?aN ?aQ A6.out).mono ?_);(case aN=>exact zc (Kd.C_below vE.out HB.out));(case aQ=>exact vF.out);rintro e w32 ⟨rfl,hb⟩;replace gX:=kb gX hb;replace HB:=ah.mk (ai (zb HB) hb);(try clear hb);obtain⟨yY,yZ,z8,Jb,a5t,a5u,a5v,a5w,a5x,a5y,Zr,Zt,zf,zi,zl,Jc,a5z,a5A,a5B,a5C,a5D,a5E,Zu,Zv⟩:=c12 gX)|(go_at_call 61;(with_reducible refine(bq.calls k cB true _ A8.out).mono ?_);rintro e w' ⟨rfl,⟨nd,rfl⟩⟩)|(go_at_call 61;(with_reducible refine(bq.calls k jf false _ Qb.out).mono ?_);rintro e w' ⟨rfl,⟨nd,rfl⟩⟩))
      go_ret
      exact⟨ze,zb HB⟩
    ·replace c9:=Bool.eq_false_iff.mpr c9
     subst c9
     rw[if_neg (show ¬(false=true) by decide)]at H
     obtain rfl:=Option.some.inj H
     go_enter Tryz.func36,Tryz.ntmps36
     go_wp2_with (first|((with_reducible refine gd 1 rfl ?_);(try(refine aM (by rfl) ?_;dsimp only));refine bx (N:=1) (cs:=#[.int .i64 aV,.int .i64 aA,.slice qc jo.length qd,.string cB,.bool lI,.bool lJ,.int .i64 lU,.slice sP j4.length sQ,.string jf,.bool nu,.int .i64 gW,.int .i64 j5]) (t:=39) ?_;intro GJ hg LZ hbox hb;have gX:=ah.mk (hbox);have sS:=gw HB hg;have GK:=sS;replace HB:=ah.mk (ai (zb HB) hb);clear hb hbox hg;obtain⟨Jd,Je,Ua,a5F,a5G,a5H,a5I,a5J,a5K,a5L,Zw,Zx,Jf,Jg,Ub,a5M,a5N,a5O,a5P,a5Q,a5R,a5S,Zy,Zz⟩:=c12 gX)|((with_reducible refine gq 43 rfl ?_);refine gl (some 5) Tryz.func43 #[.int .i64 aA,.int .i64 1,.int .i64 3] ?_;(with_reducible refine(eY.calls aA 1 3 true _ A2.out).mono ?_);rintro e w' ⟨rfl,⟨nd,rfl⟩⟩;refine⟨_,rfl,?_⟩)|(go_at_call 60;(with_reducible refine(eB.calls k _ _ jo true _ ?aN ?aQ A4.out).mono ?_);(case aN=>exact(Kd.C_below rA.out (zb HB)));(case aQ=>exact rD.out);rintro e w36 ⟨rfl,hb⟩;replace gX:=kb gX hb;replace HB:=ah.mk (ai (zb HB) hb);(try clear hb);obtain⟨Dt,Du,Jh,Ji,a5T,a5U,a5V,a5W,a5X,a5Y,ZA,ZB,Dv,Dw,Jj,Jk,a5Z,a6a,a6b,a6c,a6d,a6e,ZC,ZE⟩:=c12 gX)|(go_at_call 60;(with_reducible refine(eB.calls k _ _ j4 true _ ?aN ?aQ A6.out).mono ?_);(case aN=>exact zc (Kd.C_below vE.out HB.out));(case aQ=>exact vF.out);rintro e w38 ⟨rfl,hb⟩;replace gX:=kb gX hb;replace HB:=ah.mk (ai (zb HB) hb);(try clear hb);obtain⟨Jl,Jm,Jo,a6f,a6g,a6h,a6i,a6j,a6k,a6l,ZF,ZG,Jp,Jq,Jr,a6m,a6n,a6o,a6p,a6q,a6r,a6s,ZH,ZI⟩:=c12 gX)|(go_at_call 61;(with_reducible refine(bq.calls k cB false _ A8.out).mono ?_);rintro e w' ⟨rfl,⟨nd,rfl⟩⟩))
     go_ret
     exact⟨ze,zb HB⟩
   ·replace c7:=Bool.eq_false_iff.mpr c7
    subst c7
    rw[if_neg (show ¬(false=true) by decide)]at H
    obtain rfl:=Option.some.inj H
    go_enter Tryz.func36,Tryz.ntmps36
    go_wp2_with (first|((with_reducible refine gd 1 rfl ?_);(try(refine aM (by rfl) ?_;dsimp only));refine bx (N:=1) (cs:=#[.int .i64 aV,.int .i64 aA,.slice qc jo.length qd,.string cB,.bool lI,.bool lJ,.int .i64 lU,.slice sP j4.length sQ,.string jf,.bool nu,.int .i64 gW,.int .i64 j5]) (t:=39) ?_;intro GJ hg w40 hbox hb;have gX:=ah.mk (hbox);have sS:=gw HB hg;have GK:=sS;replace HB:=ah.mk (ai (zb HB) hb);clear hb hbox hg;obtain⟨Js,Jt,Ju,Uc,a6t,a6u,a6v,a6w,a6x,a6y,ZJ,ZK,Jv,Jw,Jy,Ud,a6z,a6A,a6B,a6C,a6D,a6E,ZL,ZM⟩:=c12 gX)|((with_reducible refine gq 43 rfl ?_);refine gl (some 5) Tryz.func43 #[.int .i64 aA,.int .i64 1,.int .i64 3] ?_;(with_reducible refine(eY.calls aA 1 3 true _ A2.out).mono ?_);rintro e w' ⟨rfl,⟨nd,rfl⟩⟩;refine⟨_,rfl,?_⟩)|(go_at_call 60;(with_reducible refine(eB.calls k _ _ jo true _ ?aN ?aQ A4.out).mono ?_);(case aN=>exact(Kd.C_below rA.out (zb HB)));(case aQ=>exact rD.out);rintro e w42 ⟨rfl,hb⟩;replace gX:=kb gX hb;replace HB:=ah.mk (ai (zb HB) hb);(try clear hb);obtain⟨Ue,Uf,Ug,Uh,a6F,a6G,a6H,a6I,a6J,a6K,ZN,ZO,Ui,Uj,Uk,Ul,a6L,a6M,a6N,a6O,a6P,a6Q,ZP,ZQ⟩:=c12 gX)|(go_at_call 60;(with_reducible refine(eB.calls k _ _ j4 false _ ?aN ?aQ A6.out).mono ?_);(case aN=>exact zc (Kd.C_below vE.out HB.out));(case aQ=>exact vF.out);rintro e w44 ⟨rfl,hb⟩;replace gX:=kb gX hb;replace HB:=ah.mk (ai (zb HB) hb);(try clear hb)))
    go_ret
    exact⟨ze,zb HB⟩
  ·replace c5:=Bool.eq_false_iff.mpr c5
   subst c5
   rw[if_neg (show ¬(false=true) by decide)]at H
   obtain rfl:=Option.some.inj H
   go_enter Tryz.func36,Tryz.ntmps36
   go_wp2_with (first|((with_reducible refine gd 1 rfl ?_);(try(refine aM (by rfl) ?_;dsimp only));refine bx (N:=1) (cs:=#[.int .i64 aV,.int .i64 aA,.slice qc jo.length qd,.string cB,.bool lI,.bool lJ,.int .i64 lU,.slice sP j4.length sQ,.string jf,.bool nu,.int .i64 gW,.int .i64 j5]) (t:=39) ?_;intro GJ hg w45 hbox hb;have gX:=ah.mk (hbox);have sS:=gw HB hg;have GK:=sS;replace HB:=ah.mk (ai (zb HB) hb);clear hb hbox hg;obtain⟨a7t,a7u,a7v,asL,asM,asN,asO,asP,asQ,asR,akh,aki,a7w,a7x,a7y,asS,asT,asU,asV,asW,asX,asY,akj,akk⟩:=c12 gX)|((with_reducible refine gq 43 rfl ?_);refine gl (some 5) Tryz.func43 #[.int .i64 aA,.int .i64 1,.int .i64 3] ?_;(with_reducible refine(eY.calls aA 1 3 true _ A2.out).mono ?_);rintro e w' ⟨rfl,⟨nd,rfl⟩⟩;refine⟨_,rfl,?_⟩)|(go_at_call 60;(with_reducible refine(eB.calls k _ _ jo false _ ?aN ?aQ A4.out).mono ?_);(case aN=>exact(Kd.C_below rA.out (zb HB)));(case aQ=>exact rD.out);rintro e w47 ⟨rfl,hb⟩;replace gX:=kb gX hb;replace HB:=ah.mk (ai (zb HB) hb);(try clear hb)))
   go_ret
   exact⟨ze,zb HB⟩
 ·replace c3:=Bool.eq_false_iff.mpr c3
  subst c3
  rw[if_neg (show ¬(false=true) by decide)]at H
  obtain rfl:=Option.some.inj H
  go_enter Tryz.func36,Tryz.ntmps36
  go_wp2_with (first|((with_reducible refine gd 1 rfl ?_);(try(refine aM (by rfl) ?_;dsimp only));refine bx (N:=1) (cs:=#[.int .i64 aV,.int .i64 aA,.slice qc jo.length qd,.string cB,.bool lI,.bool lJ,.int .i64 lU,.slice sP j4.length sQ,.string jf,.bool nu,.int .i64 gW,.int .i64 j5]) (t:=39) ?_;intro GJ hg w48 hbox hb;have gX:=ah.mk (hbox);have sS:=gw HB hg;have GK:=sS;replace HB:=ah.mk (ai (zb HB) hb);clear hb hbox hg;obtain⟨a7z,a7A,a7B,asZ,at0,at1,at5,at6,at7,ata,akm,akn,a7C,a7D,a7E,atb,atc,atd,ate,atf,atg,ath,ako,akp⟩:=c12 gX)|((with_reducible refine gq 43 rfl ?_);refine gl (some 5) Tryz.func43 #[.int .i64 aA,.int .i64 1,.int .i64 3] ?_;(with_reducible refine(eY.calls aA 1 3 false _ A2.out).mono ?_);rintro e w' ⟨rfl,⟨nd,rfl⟩⟩;refine⟨_,rfl,?_⟩))
  go_ret
  exact⟨ze,zb HB⟩
def kV.f(aV:Int)(aA:Bool)(dN:Int)(cB:ByteArray):Option (Bool):=if aV=8 then(if dN=0 then(if aA=true then(some false)else(if(cB.size:Int)=1 then(if 0<(cB.size:Int)then((eY.f (wrap64 (bt cB 0)) 1 31).bind fun a0q=>(some a0q))else(none))else(some false)))else((gD.f dN).bind fun a0r=>(if a0r=true then(if aA=true then(some false)else(if(cB.size:Int)=1 then(if 0<(cB.size:Int)then((eY.f (wrap64 (bt cB 0)) 1 31).bind fun a0s=>(some a0s))else(none))else(some false)))else(some false))))else((gD.f dN).bind fun Xj=>(if Xj=true then(if aV=0 then(some (decide ((cB.size:Int)≤200)))else(if aV=1 then(some (decide ((cB.size:Int)≤200)))else(if aV=3 then(if cB.toList=([]:List UInt8)then(some (!aA))else(some false))else(some false))))else(some false)))
theorem kV.calls(aV:Int)(aA:Bool)(dN:Int)(cB:ByteArray)(r:Bool)(w:World)(h:kV.f aV aA dN cB=some r):
 Calls Tryz.prog 39 #[.agg #[.int .i64 aV,.bool aA,.int .i64 dN,.string cB]] w fun e w'=>e= .returned (.bool r)∧Below w.heap.size w w':=by
 have a6R:=Tryz.underlying42
 have HB:=ah.mk (Below.refl w.heap.size w)
 have H:(if aV=8 then(if dN=0 then(if aA=true then(some false)else(if(cB.size:Int)=1 then(if 0<(cB.size:Int)then((eY.f (wrap64 (bt cB 0)) 1 31).bind fun a0q=>(some a0q))else(none))else(some false)))else((gD.f dN).bind fun a0r=>(if a0r=true then(if aA=true then(some false)else(if(cB.size:Int)=1 then(if 0<(cB.size:Int)then((eY.f (wrap64 (bt cB 0)) 1 31).bind fun a0s=>(some a0s))else(none))else(some false)))else(some false))))else((gD.f dN).bind fun Xj=>(if Xj=true then(if aV=0 then(some (decide ((cB.size:Int)≤200)))else(if aV=1 then(some (decide ((cB.size:Int)≤200)))else(if aV=3 then(if cB.toList=([]:List UInt8)then(some (!aA))else(some false))else(some false))))else(some false))))=some r:=h
 clear h
 replace H:=sp H
 rcases H with⟨c2,H⟩|⟨c2,H⟩
 ·skip
  have c2b0:(aV==8)=true:=beq_iff_eq.mpr c2
  have c2b1:(aV != 8)=false:=bne_eq_false_iff_eq.mpr c2
  clear c2
  by_cases c3:dN=0
  ·rw[if_pos c3]at H
   have c3b0:(dN==0)=true:=beq_iff_eq.mpr c3
   have c3b1:(dN != 0)=false:=bne_eq_false_iff_eq.mpr c3
   clear c3
   by_cases c4:aA=true
   ·subst c4
    rw[if_pos rfl]at H
    obtain rfl:=Option.some.inj H
    go_enter Tryz.func39,Tryz.ntmps39
    go_wp2_with (first|((with_reducible refine gd 1 rfl ?_);(try(refine aM (by rfl) ?_;dsimp only));refine bx (N:=1) (cs:=#[.int .i64 aV,.bool true,.int .i64 dN,.string cB]) (t:=42) ?_;intro EG hg w5 hbox hb;have nD:=ah.mk (hbox);have qD:=gw HB hg;have EH:=qD;replace HB:=ah.mk (ai (zb HB) hb);clear hb hbox hg;obtain⟨Ez,EA,adJ,aBf,QC,EB,adK,aBg⟩:=c4 nD))
    go_ret
    exact⟨ze,zb HB⟩
   ·replace c4:=Bool.eq_false_iff.mpr c4
    subst c4
    rw[if_neg (show ¬(false=true) by decide)]at H
    by_cases c7:(cB.size:Int)=1
    ·rw[if_pos c7]at H
     have c7b0:((cB.size:Int)==1)=true:=beq_iff_eq.mpr c7
     have c7b1:((cB.size:Int) != 1)=false:=bne_eq_false_iff_eq.mpr c7
     clear c7
     by_cases c8:0<(cB.size:Int)
     ·rw[if_pos c8]at H
      have c8b0:=decide_eq_true c8
      have c8b1:=decide_eq_true (by omega)
      clear c8
      obtain⟨a0q,Qb,H⟩:=ob H
      (try dsimp only at H)
      obtain rfl:=Option.some.inj H
      go_enter Tryz.func39,Tryz.ntmps39
      go_wp2_with (first|((with_reducible refine gd 1 rfl ?_);(try(refine aM (by rfl) ?_;dsimp only));refine bx (N:=1) (cs:=#[.int .i64 aV,.bool false,.int .i64 dN,.string cB]) (t:=42) ?_;intro EG hg w11 hbox hb;have nD:=ah.mk (hbox);have qD:=gw HB hg;have EH:=qD;replace HB:=ah.mk (ai (zb HB) hb);clear hb hbox hg;obtain⟨UD,UE,ati,atj,a7F,UF,atl,atm⟩:=c4 nD;have p9:0≤(0:Int):=(by omega);have q9:0<cB.size:=(by have:(0:Int)<(cB.size:Int):=of_decide_eq_true za;omega);have hx9:∀h:0<cB.size,((cB[0]'h).toNat:Int)=bt cB 0:=gB cB 0;clear p9;have qi9:(0<(cB.size:Int))=True:=eq_true (of_decide_eq_true za);replace q9:=eq_true q9)|(go_at_call 43;(with_reducible refine(eY.calls (wrap64 (bt cB 0)) 1 31 a0q _ Qb.out).mono ?_);rintro e w' ⟨rfl,⟨nd,rfl⟩⟩))
      go_ret
      exact⟨ze,zb HB⟩
     ·rw[if_neg c8]at H
      exact absurd H (by simp)
    ·rw[if_neg c7]at H
     have c7b0:((cB.size:Int)==1)=false:=beq_eq_false_iff_ne.mpr c7
     have c7b1:((cB.size:Int) != 1)=true:=bne_iff_ne.mpr c7
     obtain rfl:=Option.some.inj H
     go_enter Tryz.func39,Tryz.ntmps39
     go_wp2_with (first|((with_reducible refine gd 1 rfl ?_);(try(refine aM (by rfl) ?_;dsimp only));refine bx (N:=1) (cs:=#[.int .i64 aV,.bool false,.int .i64 dN,.string cB]) (t:=42) ?_;intro EG hg w13 hbox hb;have nD:=ah.mk (hbox);have qD:=gw HB hg;have EH:=qD;replace HB:=ah.mk (ai (zb HB) hb);clear hb hbox hg;obtain⟨atn,ato,atp,atq,atr,att,atu,atv⟩:=c4 nD))
     go_ret
     exact⟨ze,zb HB⟩
  ·rw[if_neg c3]at H
   have c3b0:(dN==0)=false:=beq_eq_false_iff_ne.mpr c3
   have c3b1:(dN != 0)=true:=bne_iff_ne.mpr c3
   obtain⟨a0r,Yn,H⟩:=ob H
   (try dsimp only at H)
   by_cases c16:a0r=true
   ·subst c16
    rw[if_pos rfl]at H
    by_cases c17:aA=true
    ·subst c17
     rw[if_pos rfl]at H
     obtain rfl:=Option.some.inj H
     go_enter Tryz.func39,Tryz.ntmps39
     go_wp2_with (first|((with_reducible refine gd 1 rfl ?_);(try(refine aM (by rfl) ?_;dsimp only));refine bx (N:=1) (cs:=#[.int .i64 aV,.bool true,.int .i64 dN,.string cB]) (t:=42) ?_;intro EG hg UG hbox hb;have nD:=ah.mk (hbox);have qD:=gw HB hg;have EH:=qD;replace HB:=ah.mk (ai (zb HB) hb);clear hb hbox hg;obtain⟨UH,UI,UJ,atw,UK,UL,UM,atx⟩:=c4 nD)|(go_at_call 35;(with_reducible refine(gD.calls dN true _ Yn.out).mono ?_);rintro e w' ⟨rfl,⟨nd,rfl⟩⟩))
     go_ret
     exact⟨ze,zb HB⟩
    ·replace c17:=Bool.eq_false_iff.mpr c17
     subst c17
     rw[if_neg (show ¬(false=true) by decide)]at H
     by_cases c20:(cB.size:Int)=1
     ·rw[if_pos c20]at H
      have c20b0:((cB.size:Int)==1)=true:=beq_iff_eq.mpr c20
      have c20b1:((cB.size:Int) != 1)=false:=bne_eq_false_iff_eq.mpr c20
      clear c20
      by_cases c21:0<(cB.size:Int)
      ·rw[if_pos c21]at H
       have c21b0:=decide_eq_true c21
       have c21b1:=decide_eq_true (by omega)
       clear c21
       obtain⟨a0s,A23,H⟩:=ob H
       (try dsimp only at H)
       obtain rfl:=Option.some.inj H
       go_enter Tryz.func39,Tryz.ntmps39
       go_wp2_with (first|((with_reducible refine gd 1 rfl ?_);(try(refine aM (by rfl) ?_;dsimp only));refine bx (N:=1) (cs:=#[.int .i64 aV,.bool false,.int .i64 dN,.string cB]) (t:=42) ?_;intro EG hg w24 hbox hb;have nD:=ah.mk (hbox);have qD:=gw HB hg;have EH:=qD;replace HB:=ah.mk (ai (zb HB) hb);clear hb hbox hg;obtain⟨TU,TY,U0,U1,U2,U3,U4,U5⟩:=c4 nD)|(go_at_call 35;(with_reducible refine(gD.calls dN true _ Yn.out).mono ?_);rintro e w' ⟨rfl,⟨nd,rfl⟩⟩;have p22:0≤(0:Int):=(by omega);have q22:0<cB.size:=(by have:(0:Int)<(cB.size:Int):=of_decide_eq_true za;omega);have aPi:∀h:0<cB.size,((cB[0]'h).toNat:Int)=bt cB 0:=gB cB 0;clear p22;have aPj:(0<(cB.size:Int))=True:=eq_true (of_decide_eq_true za);replace q22:=eq_true q22)|(go_at_call 43;(with_reducible refine(eY.calls (wrap64 (bt cB 0)) 1 31 a0s _ A23.out).mono ?_);rintro e w' ⟨rfl,⟨nd,rfl⟩⟩))
       go_ret
       exact⟨ze,zb HB⟩
      ·rw[if_neg c21]at H
       exact absurd H (by simp)
     ·rw[if_neg c20]at H
      have c20b0:((cB.size:Int)==1)=false:=beq_eq_false_iff_ne.mpr c20
      have c20b1:((cB.size:Int) != 1)=true:=bne_iff_ne.mpr c20
      obtain rfl:=Option.some.inj H
      go_enter Tryz.func39,Tryz.ntmps39
      go_wp2_with (first|((with_reducible refine gd 1 rfl ?_);(try(refine aM (by rfl) ?_;dsimp only));refine bx (N:=1) (cs:=#[.int .i64 aV,.bool false,.int .i64 dN,.string cB]) (t:=42) ?_;intro EG hg w26 hbox hb;have nD:=ah.mk (hbox);have qD:=gw HB hg;have EH:=qD;replace HB:=ah.mk (ai (zb HB) hb);clear hb hbox hg;obtain⟨IV,IW,IX,IY,IZ,J2,J3,J4⟩:=c4 nD)|(go_at_call 35;(with_reducible refine(gD.calls dN true _ Yn.out).mono ?_);rintro e w' ⟨rfl,⟨nd,rfl⟩⟩))
      go_ret
      exact⟨ze,zb HB⟩
   ·replace c16:=Bool.eq_false_iff.mpr c16
    subst c16
    rw[if_neg (show ¬(false=true) by decide)]at H
    obtain rfl:=Option.some.inj H
    go_enter Tryz.func39,Tryz.ntmps39
    go_wp2_with (first|((with_reducible refine gd 1 rfl ?_);(try(refine aM (by rfl) ?_;dsimp only));refine bx (N:=1) (cs:=#[.int .i64 aV,.bool aA,.int .i64 dN,.string cB]) (t:=42) ?_;intro EG hg w28 hbox hb;have nD:=ah.mk (hbox);have qD:=gw HB hg;have EH:=qD;replace HB:=ah.mk (ai (zb HB) hb);clear hb hbox hg;obtain⟨J5,J6,J7,U6,J8,J9,Ja,U7⟩:=c4 nD)|(go_at_call 35;(with_reducible refine(gD.calls dN false _ Yn.out).mono ?_);rintro e w' ⟨rfl,⟨nd,rfl⟩⟩))
    go_ret
    exact⟨ze,zb HB⟩
 ·skip
  have c2b0:(aV==8)=false:=beq_eq_false_iff_ne.mpr c2
  have c2b1:(aV != 8)=true:=bne_iff_ne.mpr c2
  obtain⟨Xj,A30,H⟩:=ob H
  (try dsimp only at H)
  have akq:=ah.mk H
  clear H
  go_enter Tryz.func39,Tryz.ntmps39
  go_upto_if 35 with(first|((with_reducible refine gd 1 rfl ?_);(try(refine aM (by rfl) ?_;dsimp only));refine bx (N:=1) (cs:=#[.int .i64 aV,.bool aA,.int .i64 dN,.string cB]) (t:=42) ?_;intro EG hg w32 hbox hb;have nD:=ah.mk (hbox);have qD:=gw HB hg;have EH:=qD;replace HB:=ah.mk (ai (zb HB) hb);clear hb hbox hg;obtain⟨yY,yZ,z8,Jb,zf,zi,zl,Jc⟩:=c4 nD)|((with_reducible refine gq 35 rfl ?_);refine gl (some 34) Tryz.func35 #[.int .i64 dN] ?_;(with_reducible refine(gD.calls dN Xj _ A30.out).mono ?_);rintro e w' ⟨rfl,⟨nd,rfl⟩⟩;refine⟨_,rfl,?_⟩))
  (try simp only[Act.put,s1,s2,s3])
  have H:=akq.out
  clear akq
  by_cases c34:Xj=true
  ·subst c34
   rw[if_pos rfl]at H
   replace H:=sp H
   rcases H with⟨Qc,H⟩|⟨Qc,H⟩
   ·skip
    have c35b0:(aV==0)=true:=beq_iff_eq.mpr Qc
    have c35b1:(aV != 0)=false:=bne_eq_false_iff_eq.mpr Qc
    clear Qc
    (first|rw[c35b0]|rw[c35b1]|rw[c35b2]|(simp only[iC,iQ];rw[c35b0])|skip)
    obtain rfl:=Option.some.inj H
    obtain⟨a6Y,a6Z,a7a,a7b,a7c,a7d,a7e,a7f⟩:=c4 nD
    go_wp2
    go_ret
    exact⟨ze,zb HB⟩
   ·skip
    have c35b0:(aV==0)=false:=beq_eq_false_iff_ne.mpr Qc
    have c35b1:(aV != 0)=true:=bne_iff_ne.mpr Qc
    (first|rw[c35b0]|rw[c35b1]|rw[c35b2]|(simp only[iC,iQ];rw[c35b0])|skip)
    replace H:=sp H
    rcases H with⟨c37,H⟩|⟨c37,H⟩
    ·skip
     have c37b0:(aV==1)=true:=beq_iff_eq.mpr c37
     have c37b1:(aV != 1)=false:=bne_eq_false_iff_eq.mpr c37
     clear c37
     obtain rfl:=Option.some.inj H
     obtain⟨DI,DJ,DK,Uw,DL,DN,DT,Ux⟩:=c4 nD
     go_wp2
     go_ret
     exact⟨ze,zb HB⟩
    ·skip
     have c37b0:(aV==1)=false:=beq_eq_false_iff_ne.mpr c37
     have c37b1:(aV != 1)=true:=bne_iff_ne.mpr c37
     replace H:=sp H
     rcases H with⟨JR,H⟩|⟨JR,H⟩
     ·skip
      have c39b0:(aV==3)=true:=beq_iff_eq.mpr JR
      have c39b1:(aV != 3)=false:=bne_eq_false_iff_eq.mpr JR
      clear JR
      by_cases c40:cB.toList=([]:List UInt8)
      ·rw[if_pos c40]at H
       have c40b0:(cB.toList==([]:List UInt8))=true:=beq_iff_eq.mpr c40
       have c40b1:(cB.toList != ([]:List UInt8))=false:=bne_eq_false_iff_eq.mpr c40
       clear c40
       obtain rfl:=Option.some.inj H
       obtain⟨Js,Jt,Ju,Uc,Jv,Jw,Jy,Ud⟩:=c4 nD
       go_wp2
       go_ret
       exact⟨ze,zb HB⟩
      ·rw[if_neg c40]at H
       have c40b0:(cB.toList==([]:List UInt8))=false:=beq_eq_false_iff_ne.mpr c40
       have c40b1:(cB.toList != ([]:List UInt8))=true:=bne_iff_ne.mpr c40
       obtain rfl:=Option.some.inj H
       obtain⟨a7G,a7H,aty,atz,a7I,a7J,atA,atB⟩:=c4 nD
       go_wp2
       go_ret
       exact⟨ze,zb HB⟩
     ·skip
      have c39b0:(aV==3)=false:=beq_eq_false_iff_ne.mpr JR
      have c39b1:(aV != 3)=true:=bne_iff_ne.mpr JR
      obtain rfl:=Option.some.inj H
      obtain⟨Ue,Uf,Ug,Uh,Ui,Uj,Uk,Ul⟩:=c4 nD
      go_wp2
      go_ret
      exact⟨ze,zb HB⟩
  ·replace c34:=Bool.eq_false_iff.mpr c34
   subst c34
   rw[if_neg (show ¬(false=true) by decide)]at H
   obtain rfl:=Option.some.inj H
   go_wp2
   go_ret
   exact⟨ze,zb HB⟩
def mD.f(aV:Int)(aA:Bool)(dN:Int)(cB:ByteArray):Option (Bool):=(kV.f aV aA dN cB).bind fun a0t=>(some (!a0t))
theorem mD.calls(aV:Int)(aA:Bool)(dN:Int)(cB:ByteArray)(r:Bool)(w:World)(h:mD.f aV aA dN cB=some r):
 Calls Tryz.prog 38 #[.agg #[.int .i64 aV,.bool aA,.int .i64 dN,.string cB]] w fun e w'=>e= .returned (.bool r)∧Below w.heap.size w w':=by
 have a6R:=Tryz.underlying42
 have HB:=ah.mk (Below.refl w.heap.size w)
 have H:((kV.f aV aA dN cB).bind fun a0t=>(some (!a0t)))=some r:=h
 clear h
 obtain⟨a0t,A2,H⟩:=ob H
 (try dsimp only at H)
 obtain rfl:=Option.some.inj H
 go_enter Tryz.func38,Tryz.ntmps38
 go_wp2_with (first|((with_reducible refine gd 1 rfl ?_);refine bx (N:=1) (cs:=#[.int .i64 aV,.bool aA,.int .i64 dN,.string cB]) (t:=42) ?_;intro aKx hg w3 hbox hb;have a0u:=ah.mk (hbox);have akr:=gw HB hg;have aKy:=akr;replace HB:=ah.mk (ai (zb HB) hb);clear hb hbox hg;obtain⟨um,uo,yw,Bz,yx,uq,yA,BA⟩:=c4 a0u)|((with_reducible refine gq 39 rfl ?_);refine gl (some 4) Tryz.func39 #[.agg #[.int .i64 aV,.bool aA,.int .i64 dN,.string cB]] ?_;(with_reducible refine(kV.calls aV aA dN cB a0t _ A2.out).mono ?_);rintro e w5 ⟨rfl,hb⟩;refine⟨_,rfl,?_⟩;replace a0u:=kb a0u hb;replace HB:=ah.mk (ai (zb HB) hb);(try clear hb)))
 go_ret
 exact⟨ze,zb HB⟩
def gI(p:nC→Option Bool):List (nC)→Int→Option Int
 |[],_=>some (-1)
 |x::l,i=>(p x).bind fun b=>if b then some i else gI p l (i+1)
def uw(P:Program)(g:Nat)(lb:Array Value)(p:nC→Option Bool)(w:World):Prop:=
 ∀(W:World)(x:nC)(b:Bool),Below w.heap.size w W→p x=some b→Calls P g (#[.agg #[.int .i64 x.f0,.bool x.f1,.int .i64 x.f2,.string x.f3]]++lb) W fun e w'=>e= .returned (.bool b)∧Below w.heap.size w w'
theorem uZ(g:Nat)(lb:Array Value)(p:nC→Option Bool)(eg:∀args w,(callFunc g args).run Tryz.prog w= .ok (.enter g args) w)(A0:Option Addr)(c0:Nat)(l0:List (nC))(r:Int)(w:World)(hr0:Kd.C Ym w A0 l0.length l0)(hc0:l0.length≤c0)
 (hp:uw Tryz.prog g lb p w)(h:gI p l0 0=some r)(hl:l0.length≤1000000000):
 Calls Tryz.prog 62 #[.slice A0 l0.length c0,.func (.func g) #[] lb] w fun e w'=>e= .returned (.int .i64 r)∧Below w.heap.size w w':=by
 have Gd:=ah.mk hr0
 have HP:=ah.mk hp
 have H:=ah.mk h
 clear hr0 hp h
 go_enter Tryz.func62,Tryz.ntmps62
 go_wp2
 go_loopg [5,8] (l0.length) (fun kq v5 v8 w'=>∃i:Nat,v8= .int .i64 i∧ah (kq+i=l0.length)∧ah (gI p (l0.drop i) i=some r)∧ah (Below w.heap.size w w'))
 case atStart=>exact⟨0,rfl,⟨by omega⟩,⟨by simpa using H.out⟩,⟨Below.refl _ _⟩⟩
 case round=>
  obtain⟨i,rfl,HK,HX,HB⟩:=hrel
  have hk:=HK.out
  by_cases hj:i<l0.length
  ·have h0:(0:Int)≤(i:Int):=by omega
   have h1:(i:Int)<(l0.length:Int):=by omega
   obtain⟨x,hx⟩:∃x,l0[i]?=some x:=⟨_,List.getElem?_eq_getElem hj⟩
   have hdrop:l0.drop i=x::l0.drop (i+1):=by
    rw[List.drop_eq_getElem_cons hj]
    rw[List.getElem?_eq_getElem hj]at hx
    rw[Option.some.inj hx]
   obtain⟨_,_,hrd⟩:=Kd.C_below Gd.out HB.out
   obtain⟨ad,e1,hcell⟩:=hrd (by omega)
   obtain⟨c,hc1,hc2,hc3⟩:=hcell i x hx
   have hc4:=Mr hc2
   subst hc4
   subst e1
   have q0:wr.cell? (ad.add (i*4))=some (.int .i64 x.f0):=by have h9:=hc3 0 _ rfl;exact h9
   have q1:wr.cell? ⟨(ad.add (i*4)).block,(ad.add (i*4)).off+1,none⟩=some (.bool x.f1):=by have h9:=hc3 1 _ rfl;rw[←Go.Addr.add_add]at h9;exact h9
   have q2:wr.cell? ⟨(ad.add (i*4)).block,(ad.add (i*4)).off+2,none⟩=some (.int .i64 x.f2):=by have h9:=hc3 2 _ rfl;rw[←Go.Addr.add_add]at h9;exact h9
   have q3:wr.cell? ⟨(ad.add (i*4)).block,(ad.add (i*4)).off+3,none⟩=some (.string x.f3):=by have h9:=hc3 3 _ rfl;rw[←Go.Addr.add_add]at h9;exact h9
   have hX:=HX.out
   rw[hdrop,gI]at hX
   obtain⟨b,hb1,hb2⟩:=Option.bind_eq_some_iff.1 hX
   have hcall:=HP.out wr x b HB.out hb1
   have HX2:=ah.mk hb2
   cases gk with
   |zero=>omega
   |succ k1=>
   clear hk hX hb2 hrd hcell hc1 hc2 hc3 hdrop
   cases b with
   |true=>
    go_wp2_with (go_at_fn g;refine hcall.mono ?_;rintro e w' ⟨rfl,hb'⟩)
    go_ret
    have h9:some (i:Int)=some r:=by simpa using HX2.out
    exact⟨by rw[←Option.some.inj h9];rfl,hb'⟩
   |false=>
    go_wp2_with (go_at_fn g;refine hcall.mono ?_;rintro e w' ⟨rfl,hb'⟩)
    go_roundg k1
    case measure=>have:=HK.out;omega
    case rel=>
     refine⟨i+1,by go_num,⟨by have:=HK.out;omega⟩,⟨?_⟩,⟨hb'⟩⟩
     have h9:=HX2.out
     rw[if_neg (by decide)]at h9
     rw[show((i+1:Nat):Int)=(i:Int)+1 by omega]
     exact h9
  ·have e:i=l0.length:=by omega
   have hltz:¬(i:Int)<(l0.length:Int):=by omega
   clear hk hj
   have HE:=ah.mk e
   clear e
   go_wp2
   go_ret
   have e:=HE.out
   subst e
   have hX:=HX.out
   rw[List.drop_length,gI]at hX
   exact⟨by rw[←Option.some.inj hX];rfl,HB.out⟩
theorem si(g:Nat)(lb:Array Value)(p:nC→Option Bool)(eg:∀args w,(callFunc g args).run Tryz.prog w= .ok (.enter g args) w)(A0:Option Addr)(c0:Nat)(l0:List (nC))(r:Int)(w:World)(hr0:Kd.C Ym w A0 l0.length l0)(hc0:l0.length≤c0)
 (hp:uw Tryz.prog g lb p w)(h:gI p l0 0=some r)(hl:l0.length≤1000000000):
 Calls Tryz.prog 37 #[.slice A0 l0.length c0,.func (.func g) #[] lb] w fun e w'=>e= .returned (.bool (decide (0≤r)))∧Below w.heap.size w w':=by
 go_enter Tryz.func37,Tryz.ntmps37
 go_wp2_with (go_at_call 62;refine(uZ g lb p eg A0 c0 l0 r _ hr0 hc0 hp h hl).mono ?_;rintro e w' ⟨rfl,hb'⟩)
 go_ret
 exact⟨rfl,hb'⟩
def aG.p(k:Nat)(g:Nat)(x:nC):Option Bool:=if g=38 then mD.f x.f0 x.f1 x.f2 x.f3 else none
def aG.known(g:Nat):Prop:=g=38∨False
instance(g:Nat):Decidable (aG.known g):=by unfold aG.known;infer_instance
def aG.f(k:Nat)(l0:List (nC))(a1:Nat):Option Bool:=
 if l0.length≤1000000000∧aG.known a1 then(gI (aG.p k a1) l0 0).bind fun r=>some (decide (0≤r))else none
theorem qE{p q:nC→Option Bool}(hpq:∀x,gV (p x) (q x)):∀(l:List (nC))(i:Int),gV (gI p l i) (gI q l i)
 |[],_=>fun r h=>h
 |x::l,i=>by
  intro r h
  unfold gI at h ⊢
  obtain⟨b,hb,hr⟩:=Option.bind_eq_some_iff.1 h
  rw[hpq x b hb]
  simp only[Option.bind_some]
  cases b with
  |true=>exact hr
  |false=>exact qE hpq l (i+1) r hr
theorem aG.p_mono(k g:Nat)(x:nC):gV (aG.p k g x) (aG.p (k+1) g x):=by
 unfold aG.p
 refine gV.ite (gV.refl _) ?_
 exact gV.refl _
theorem aG.mono:∀a0 a1 k,gV (aG.f k a0 a1) (aG.f (k+1) a0 a1):=by
 intro a0 a1 k
 unfold aG.f
 refine gV.ite ?_ (gV.refl _)
 exact gV.bind (qE (fun x=>aG.p_mono k a1 x) a0 0) (fun _=>gV.refl _)
theorem aG.enters(a1:Nat)(h:aG.known a1):∀args w,(callFunc a1 args).run Tryz.prog w= .ok (.enter a1 args) w:=by
 unfold aG.known at h
 rcases h with e|h
 ·subst e;exact enters_of Tryz.func38 (by kernel_rfl) rfl
 cases h
theorem aG.pred(k a1:Nat)(w:World):uw Tryz.prog a1 #[] (aG.p k a1) w:=by
 intro W x b hW h
 unfold aG.p at h
 split at h
 ·rename_i e;subst e;rw[Array.append_empty];exact(mD.calls x.f0 x.f1 x.f2 x.f3 b W h).mono fun e w2 h2=>⟨h2.1,ai hW h2.2⟩
 cases h
theorem aG.calls(k:Nat)(A0:Option Addr)(c0:Nat)(l0:List (nC))(a1:Nat)(r:Bool)(w:World)(hr0:Kd.C Ym w A0 l0.length l0)(hc0:l0.length≤c0)(h:aG.f k l0 a1=some r):
 Calls Tryz.prog 37 #[.slice A0 l0.length c0,.func (.func a1) #[] #[]] w fun e w'=>e= .returned (.bool r)∧Below w.heap.size w w':=by
 unfold aG.f at h
 split at h
 case isFalse=>cases h
 rename_i hl
 obtain⟨i,hi,hr⟩:=Option.bind_eq_some_iff.1 h
 obtain rfl:=Option.some.inj hr
 exact si a1 #[] _ (aG.enters a1 hl.2) A0 c0 _ i w hr0 hc0 (aG.pred k a1 w) hi hl.1
def bN.l0:Nat→Int→List (bg)→Int→Int→Option (Int)
 |0,_,_,_,_=>none
 |k+1,x3,x7,x8,x9=>if x9<x8 then(if 0≤x9 then(if x9<(x7.length:Int)then(bN.l0 k (wrap64 (x3+(wrap64 ((wrap64 ((((aT x7 x9).f0).size:Int)+(((aT x7 x9).f1).size:Int)))+4)))) x7 x8 (wrap64 (x9+1)))else(none))else(none))else(some x3)
def bN.f(k:Nat)(aH:List (bg))(aA:Int):Option (Int):=bN.l0 k 0 aH (aH.length:Int) 0
theorem bN.mono_l:∀k,(∀y0 y1 y2 y3,gV (bN.l0 k y0 y1 y2 y3) (bN.l0 (k+1) y0 y1 y2 y3))
 |0=>fun _ _ _ _ r h=>by simp[bN.l0]at h
 |k+1=>by
  have ng:=bN.mono_l k
  ·intro y0 y1 y2 y3
   unfold bN.l0
   exact zm
theorem bN.mono:∀a0 a1 k,gV (bN.f k a0 a1) (bN.f (k+1) a0 a1):=by
 intro a0 a1 k
 have ng:=bN.mono_l k
 unfold bN.f
 exact zm
theorem bN.calls(k:Nat)(iW:Option Addr)(iX:Nat)(aH:List (bg))(aA:Int)(r:Int)(w:World)(kM:Kd.C iF w iW aH.length aH)(kN:aH.length≤iX)(h:bN.f k aH aA=some r):
 Calls Tryz.prog 66 #[.agg #[.slice iW aH.length iX,.int .i64 aA]] w fun e w'=>e= .returned (.int .i64 r)∧Below w.heap.size w w':=by
 have zB:=Tryz.underlying25
 have rZ:=Tryz.underlying89
 have lF:=ah.mk kM
 have oZ:=ah.mk kN
 clear kM kN
 have HB:=ah.mk (Below.refl w.heap.size w)
 have H:(bN.l0 k 0 aH (aH.length:Int) 0)=some r:=h
 clear h
 have H':=ah.mk H
 clear H
 go_enter Tryz.func66,Tryz.ntmps66
 go_wp2_with (first|((with_reducible refine gd 1 rfl ?_);refine bx (N:=1) (cs:=#[.slice iW aH.length iX,.int .i64 aA]) (t:=25) ?_;intro aks hg w2 hbox hb;have EI:=ah.mk (hbox);have akt:=gw HB hg;have aKz:=akt;replace HB:=ah.mk (ai (zb HB) hb);clear hb hbox hg;obtain⟨ZU,ZV,ZW,ZX⟩:=c2 EI))
 go_loopg [3,9] k (fun kq v3 v9 w'=>∃(cO:Int)(sU:Int),v3= .int .i64 cO∧v9= .int .i64 sU∧ah (bN.l0 kq cO aH (aH.length:Int) sU=some r)∧ah (kq≤k)∧ah (w'.heap[aks]?=some (.cells #[(.slice iW aH.length iX),.int .i64 aA] 25 (0,0)))∧ah (Below w.heap.size w w'))
 case atStart=>exact⟨(0),(0),zs,zs,H',⟨Nat.le_refl _⟩,⟨by exact zk EI⟩,⟨zb HB⟩⟩
 case round=>
  clear H'
  try clear p2
  try clear ZU
  try clear ZV
  try clear ZW
  try clear ZX
  obtain⟨cO,sU,rfl,rfl,HA,jc,EI,HB⟩:=hrel
  cases gk with
  |zero=>exact absurd HA.out (by simp[bN.l0])
  |succ k1=>
   have H:=HA.out
   clear HA
   simp only[bN.l0]at H
   replace H:=sp H
   rcases H with⟨c4,H⟩|⟨c4,H⟩
   ·skip
    have c4b0:=decide_eq_true c4
    clear c4
    by_cases c5:0≤sU
    ·rw[if_pos c5]at H
     have c5b0:=decide_eq_true c5
     clear c5
     by_cases c6:sU<(aH.length:Int)
     ·rw[if_pos c6]at H
      have c6b0:=decide_eq_true c6
      clear c6
      have H':=ah.mk H
      clear H
      have ae1:0≤(sU:Int):=of_decide_eq_true za
      have ae2:sU<(aH.length:Int):=of_decide_eq_true za
      obtain⟨aKA,aBh,UN,UO,UQ⟩:=eP lF.out sU ae1 ae2
      cases aBh
      replace UN:=pM UN HB
      replace UO:=pM UO HB
      replace UQ:=pM UQ HB
      replace ae1:=eq_true ae1
      replace ae2:=eq_true ae2
      go_wp2_with (first|((with_reducible refine gd 5 rfl ?_);refine bx (N:=5) (cs:=#[.string (⟨#[]⟩:ByteArray),.string (⟨#[]⟩:ByteArray),.bool false]) (t:=89) ?_;intro aKB hg w7 hbox hb;have aku:=ah.mk (hbox);have akv:=gw HB hg;have aKC:=akv;replace HB:=ah.mk (ai (zb HB) hb);obtain⟨Xk,Xl⟩:=nb EI hg;replace EI:=kb EI hb;clear hb hbox hg;have akw:=Xl.out;have akx:=Xk.out;obtain⟨yj,yo,Bv,yt,yu,Bw⟩:=c3 aku))
      go_roundg k1
      case measure=>have:=jc.out;omega
      case rel=>exact⟨(wrap64 (cO+(wrap64 ((wrap64 ((((aT aH sU).f0).size:Int)+(((aT aH sU).f1).size:Int)))+4)))),(wrap64 (sU+1)),zs,zs,H',⟨by have:=jc.out;omega⟩,⟨zp EI⟩,⟨zb HB⟩⟩
     ·rw[if_neg c6]at H
      exact absurd H (by simp)
    ·rw[if_neg c5]at H
     exact absurd H (by simp)
   ·skip
    have c4b0:=decide_eq_false c4
    clear c4
    obtain rfl:=Option.some.inj H
    go_wp2
    go_ret
    exact⟨ze,zb HB⟩
def dZ.f(k:Nat)(aH:List (bg))(aA:Int):Option (Bool):=(eY.f aA 0 64).bind fun a0v=>(if a0v=true then((aC.f k aH 64).bind fun a0w=>(if a0w=true then(some false)else((bN.f k aH aA).bind fun a0x=>(some (decide (a0x≤aA))))))else(some false))
theorem dZ.mono:∀a0 a1 k,gV (dZ.f k a0 a1) (dZ.f (k+1) a0 a1):=by
 intro a0 a1 k
 unfold dZ.f
 have m0:=@aC.mono
 have m1:=@bN.mono
 exact zm
def dZ.T1:Bool×List (List Nat×List Nat):=(true,[([],[]),([0],[0]),([1],[1]),([2,2],[2]),([3],[3]),([4,3],[3,4]),([5,3,3],[3,5]),([6,3],[3,6]),([3,7],[3,7]),([8,6],[8]),([9],[9]),([10,9,9],[9,10]),([9],[9]),([12,9],[9,12]),([11,13,9],[9,11,13]),([9,14],[9,14]),([15,11,0,1,2,3,4,5,6,7,8,9,10,11,12,13,14,15],[15])])
def dZ.B1:List Nat:=[0,1,3,7,15,31,63,127,255,511,1023,2047,1023,5119,16383,32767,65535]
theorem dZ.tab1:jm .any (opsOf Tryz.f40 1)=dZ.T1:=by kernel_rfl
theorem dZ.bits1:fQ dZ.T1.2 dZ.B1=true:=by kernel_rfl
theorem dZ.calls(k:Nat)(iW:Option Addr)(iX:Nat)(aH:List (bg))(aA:Int)(r:Bool)(w:World)(kM:Kd.C iF w iW aH.length aH)(kN:aH.length≤iX)(h:dZ.f k aH aA=some r):
 Calls Tryz.prog 40 #[.agg #[.slice iW aH.length iX,.int .i64 aA]] w fun e w'=>e= .returned (.bool r)∧Below w.heap.size w w':=by
 have zB:=Tryz.underlying25
 have lF:=ah.mk kM
 have oZ:=ah.mk kN
 clear kM kN
 have HB:=ah.mk (Below.refl w.heap.size w)
 have H:((eY.f aA 0 64).bind fun a0v=>(if a0v=true then((aC.f k aH 64).bind fun a0w=>(if a0w=true then(some false)else((bN.f k aH aA).bind fun a0x=>(some (decide (a0x≤aA))))))else(some false)))=some r:=h
 clear h
 obtain⟨a0v,A2,H⟩:=ob H
 (try dsimp only at H)
 by_cases c3:a0v=true
 ·subst c3
  rw[if_pos rfl]at H
  obtain⟨a0w,A4,H⟩:=ob H
  (try dsimp only at H)
  by_cases c5:a0w=true
  ·subst c5
   rw[if_pos rfl]at H
   obtain rfl:=Option.some.inj H
   go_enter Tryz.func40,Tryz.ntmps40
   try go_wp2_with (first|((with_reducible refine gd 1 rfl ?_);refine bx (N:=1) (cs:=#[.slice iW aH.length iX,.int .i64 aA]) (t:=25) ?_;intro ab9 hg w6 hbox hb;have kP:=ah.mk (hbox);have MG:=gw HB hg;have abb:=MG;replace HB:=ah.mk (ai (zb HB) hb);clear hb hbox hg))
   replace kP:=ah.mk (dn kP.out)
   replace HB:=ah.mk (dG HB.out)
   refine st 17 (b2 kP) (fun hHeld=>?_);refine bR dZ.tab1 dZ.bits1 (fun HT_ HW_=>?_)
   generalize w6.drew=w7 at kP HB hHeld ⊢
   refine pu 0 (some 3) (bm 17 1) rfl rfl ?_
   refine tk 1 (some 4) (bm 17 3) rfl rfl hHeld ?_
   refine fV (i:=2) (N:=some 5) (bm 17 7) rfl rfl (bL HT_.out (by kernel_rfl)) (by decide) (fun K hK=>?_)
   refine gs Tryz.func43 #[.int .i64 aA,.int .i64 0,.int .i64 64] ?_
   with_reducible refine(eY.calls aA 0 64 true _ A2.out).mono ?_
   rintro e w' ⟨rfl,⟨nd,rfl⟩⟩
   refine⟨_,rfl,?_⟩
   refine hK.out _ _ (b2 kP) (fun hHeld=>?_)
   clear hK K
   refine nm ?_
   refine pu 3 (some 6) (bm 17 15) rfl rfl ?_
   refine pu 4 (some 7) (bm 17 31) rfl rfl ?_
   refine tk 5 (some 8) (bm 17 63) rfl rfl hHeld ?_
   refine fV (i:=6) (N:=some 9) (bm 17 127) rfl rfl (bL HT_.out (by kernel_rfl)) (by decide) (fun K hK=>?_)
   refine gs Tryz.func63 #[.slice iW aH.length iX,.func (.func 64) #[] #[]] ?_
   with_reducible refine(aC.calls k _ _ aH 64 true _ ?aN ?aQ A4.out).mono ?_
   (case aN=>exact(Kd.C_below lF.out (zb HB)))
   (case aQ=>exact oZ.out)
   rintro e w8 ⟨rfl,hb⟩
   refine⟨_,rfl,?_⟩
   replace kP:=kb kP hb
   replace HB:=ah.mk (ai (zb HB) hb)
   (try clear hb)
   refine hK.out _ _ (b2 kP) (fun hHeld=>?_)
   clear hK K
   refine nm ?_
   refine pu 7 (some 10) (bm 17 255) rfl rfl ?_
   refine pu 8 (some 11) (bm 17 511) rfl rfl ?_
   refine pu 9 (some 12) (bm 17 1023) rfl rfl ?_
   refine pv 10 (some 13) (bm 17 2047) rfl rfl ?_
   refine pv 11 (some 14) (bm 17 4095) rfl rfl ?_
   refine pv 12 (some 15) (bm 17 8191) rfl rfl ?_
   refine pv 13 (some 16) (bm 17 16383) rfl rfl ?_
   refine pv 14 (some 17) (bm 17 32767) rfl rfl ?_
   refine pu 15 (some 18) (bm 17 65535) rfl rfl ?_
   refine pu 16 (some 2) (bm 17 131071) rfl rfl ?_
   refine fw (dM HT_.out (by kernel_rfl)) ?_
   try go_wp2
   go_ret
   exact⟨ze,zb HB⟩
  ·replace c5:=Bool.eq_false_iff.mpr c5
   subst c5
   rw[if_neg (show ¬(false=true) by decide)]at H
   obtain⟨a0x,A9,H⟩:=ob H
   (try dsimp only at H)
   obtain rfl:=Option.some.inj H
   go_enter Tryz.func40,Tryz.ntmps40
   try go_wp2_with (first|((with_reducible refine gd 1 rfl ?_);refine bx (N:=1) (cs:=#[.slice iW aH.length iX,.int .i64 aA]) (t:=25) ?_;intro ab9 hg w10 hbox hb;have kP:=ah.mk (hbox);have MG:=gw HB hg;have abb:=MG;replace HB:=ah.mk (ai (zb HB) hb);clear hb hbox hg))
   replace kP:=ah.mk (dn kP.out)
   replace HB:=ah.mk (dG HB.out)
   refine st 17 (b2 kP) (fun hHeld=>?_);refine bR dZ.tab1 dZ.bits1 (fun HT_ HW_=>?_)
   generalize w10.drew=w11 at kP HB hHeld ⊢
   refine pu 0 (some 3) (bm 17 1) rfl rfl ?_
   refine tk 1 (some 4) (bm 17 3) rfl rfl hHeld ?_
   refine fV (i:=2) (N:=some 5) (bm 17 7) rfl rfl (bL HT_.out (by kernel_rfl)) (by decide) (fun K hK=>?_)
   refine gs Tryz.func43 #[.int .i64 aA,.int .i64 0,.int .i64 64] ?_
   with_reducible refine(eY.calls aA 0 64 true _ A2.out).mono ?_
   rintro e w' ⟨rfl,⟨nd,rfl⟩⟩
   refine⟨_,rfl,?_⟩
   refine hK.out _ _ (b2 kP) (fun hHeld=>?_)
   clear hK K
   refine nm ?_
   refine pu 3 (some 6) (bm 17 15) rfl rfl ?_
   refine pu 4 (some 7) (bm 17 31) rfl rfl ?_
   refine tk 5 (some 8) (bm 17 63) rfl rfl hHeld ?_
   refine fV (i:=6) (N:=some 9) (bm 17 127) rfl rfl (bL HT_.out (by kernel_rfl)) (by decide) (fun K hK=>?_)
   refine gs Tryz.func63 #[.slice iW aH.length iX,.func (.func 64) #[] #[]] ?_
   with_reducible refine(aC.calls k _ _ aH 64 false _ ?aN ?aQ A4.out).mono ?_
   (case aN=>exact(Kd.C_below lF.out (zb HB)))
   (case aQ=>exact oZ.out)
   rintro e Xm ⟨rfl,hb⟩
   refine⟨_,rfl,?_⟩
   replace kP:=kb kP hb
   replace HB:=ah.mk (ai (zb HB) hb)
   (try clear hb)
   refine hK.out _ _ (b2 kP) (fun hHeld=>?_)
   clear hK K
   refine nm ?_
   refine pu 7 (some 10) (bm 17 255) rfl rfl ?_
   refine pu 8 (some 11) (bm 17 511) rfl rfl ?_
   refine pu 9 (some 12) (bm 17 1023) rfl rfl ?_
   refine pu 12 (some 15) (bm 17 5119) rfl rfl ?_
   refine tk 10 (some 13) (bm 17 6143) rfl rfl hHeld ?_
   refine tk 13 (some 16) (bm 17 14335) rfl rfl hHeld ?_
   refine fV (i:=11) (N:=some 14) (bm 17 16383) rfl rfl (bL HT_.out (by kernel_rfl)) (by decide) (fun K hK=>?_)
   refine gs Tryz.func66 #[.agg #[.slice iW aH.length iX,.int .i64 aA]] ?_
   with_reducible refine(bN.calls k _ _ aH aA a0x _ ?aN ?aQ A9.out).mono ?_
   (case aN=>exact zc (Kd.C_below lF.out HB.out))
   (case aQ=>exact oZ.out)
   rintro e w13 ⟨rfl,hb⟩
   refine⟨_,rfl,?_⟩
   replace kP:=kb kP hb
   replace HB:=ah.mk (ai (zb HB) hb)
   (try clear hb)
   refine hK.out _ _ (b2 kP) (fun hHeld=>?_)
   clear hK K
   refine nm ?_
   refine pu 14 (some 17) (bm 17 32767) rfl rfl ?_
   refine pu 15 (some 18) (bm 17 65535) rfl rfl ?_
   refine pu 16 (some 2) (bm 17 131071) rfl rfl ?_
   refine fw (dM HT_.out (by kernel_rfl)) ?_
   try go_wp2
   go_ret
   exact⟨ze,zb HB⟩
 ·replace c3:=Bool.eq_false_iff.mpr c3
  subst c3
  rw[if_neg (show ¬(false=true) by decide)]at H
  obtain rfl:=Option.some.inj H
  go_enter Tryz.func40,Tryz.ntmps40
  try go_wp2_with (first|((with_reducible refine gd 1 rfl ?_);refine bx (N:=1) (cs:=#[.slice iW aH.length iX,.int .i64 aA]) (t:=25) ?_;intro ab9 hg D5 hbox hb;have kP:=ah.mk (hbox);have MG:=gw HB hg;have abb:=MG;replace HB:=ah.mk (ai (zb HB) hb);clear hb hbox hg))
  replace kP:=ah.mk (dn kP.out)
  replace HB:=ah.mk (dG HB.out)
  refine st 17 (b2 kP) (fun hHeld=>?_);refine bR dZ.tab1 dZ.bits1 (fun HT_ HW_=>?_)
  generalize D5.drew=w15 at kP HB hHeld ⊢
  refine pu 0 (some 3) (bm 17 1) rfl rfl ?_
  refine tk 1 (some 4) (bm 17 3) rfl rfl hHeld ?_
  refine fV (i:=2) (N:=some 5) (bm 17 7) rfl rfl (bL HT_.out (by kernel_rfl)) (by decide) (fun K hK=>?_)
  refine gs Tryz.func43 #[.int .i64 aA,.int .i64 0,.int .i64 64] ?_
  with_reducible refine(eY.calls aA 0 64 false _ A2.out).mono ?_
  rintro e w' ⟨rfl,⟨nd,rfl⟩⟩
  refine⟨_,rfl,?_⟩
  refine hK.out _ _ (b2 kP) (fun hHeld=>?_)
  clear hK K
  refine nm ?_
  refine pu 3 (some 6) (bm 17 15) rfl rfl ?_
  refine pv 4 (some 7) (bm 17 31) rfl rfl ?_
  refine pv 5 (some 8) (bm 17 63) rfl rfl ?_
  refine pv 6 (some 9) (bm 17 127) rfl rfl ?_
  refine pv 7 (some 10) (bm 17 255) rfl rfl ?_
  refine pu 8 (some 11) (bm 17 511) rfl rfl ?_
  refine pu 9 (some 12) (bm 17 1023) rfl rfl ?_
  refine pv 10 (some 13) (bm 17 2047) rfl rfl ?_
  refine pv 11 (some 14) (bm 17 4095) rfl rfl ?_
  refine pv 12 (some 15) (bm 17 8191) rfl rfl ?_
  refine pv 13 (some 16) (bm 17 16383) rfl rfl ?_
  refine pv 14 (some 17) (bm 17 32767) rfl rfl ?_
  refine pu 15 (some 18) (bm 17 65535) rfl rfl ?_
  refine pu 16 (some 2) (bm 17 131071) rfl rfl ?_
  refine fw (dM HT_.out (by kernel_rfl)) ?_
  try go_wp2
  go_ret
  exact⟨ze,zb HB⟩
end Go.Proofs.YtokblgdgpnakpaaGreat.PFnEndLess
