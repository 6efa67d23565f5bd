/- FnWorldFrames holds: part 1 of a proof that the given program meets it (printed texts and walks of our own, made short by a program). No condition. -/
import Derived.Test.YtokblgdgpnakpaaGreatR00
import Derived.Deep.RegionLaw
import Derived.Shelf.Small.Strs
import Derived.Shelf.Strings.Search1
import Derived.Test.YtokblgdgpnakpaaGreatProg
set_option linter.unusedVariables false
set_option linter.unusedSimpArgs false
set_option maxHeartbeats 8000000
set_option maxRecDepth 100000
namespace Go.Proofs.YtokblgdgpnakpaaGreat.Lm
open Go.RowKit Go.Proofs.YtokblgdgpnakpaaGreatW.PrintWords Go.Proofs.YtokblgdgpnakpaaGreatW.PrintLast Go.Proofs.YtokblgdgpnakpaaGreatW.PrintMore
inductive vK:World→World→Prop
 |refl (W:World):vK W W
 |alloc {W0 W:World} (h:vK W0 W) (o:Obj):vK W0 (W.alloc o)
 |drew {W0 W:World} (h:vK W0 W):vK W0 W.drew
 |drewN {W0 W:World} (h:vK W0 W) (m:Nat):vK W0 (W.drewN m)
theorem zk{W0 W:World}{g:Nat}{o:Obj}(h0:ah (W0.heap[g]?=some o))(m:vK W0 W:=by(with_reducible repeat(first|exact vK.refl _|apply vK.alloc|apply vK.drewN|apply vK.drew))):W.heap[g]?=some o:=by
 induction m with
 |refl=>exact h0.out
 |alloc _ o ih=>exact wY ih o
 |drew _ ih=>exact dw ih
 |drewN _ n ih=>exact wZ ih n
theorem zr{α:Type}{d:Kd α}{e base:Nat}{ok:Nat→Prop}{v:Value}{xs:List α}{W0 W:World}(h0:ah (d.R e W0 base ok v xs))(m:vK W0 W:=by(with_reducible repeat(first|exact vK.refl _|apply vK.alloc|apply vK.drewN|apply vK.drew))):d.R e W base ok v xs:=by
 induction m with
 |refl=>exact h0.out
 |alloc _ o ih=>exact Kd.R_alloc ih o
 |drew _ ih=>exact Kd.R_drew ih
 |drewN _ n ih=>exact Kd.R_drewN ih n
theorem zc{α:Type}{d:Kd α}{A:Option Addr}{n:Nat}{xs:List α}{W0 W:World}(h0:d.C W0 A n xs)(m:vK W0 W:=by(with_reducible repeat(first|exact vK.refl _|apply vK.alloc|apply vK.drewN|apply vK.drew))):d.C W A n xs:=by
 induction m with
 |refl=>exact h0
 |alloc _ o ih=>exact Kd.C_alloc ih o
 |drew _ ih=>exact Kd.C_drew ih
 |drewN _ n ih=>exact Kd.C_drewN ih n
theorem zb{n:Nat}{w W0 W:World}(h0:ah (Below n w W0))(h:Below n w W:=by repeat(first|(with_reducible first|exact HB.out|apply eY|apply dY|apply dF|refine oJ ?_ (ah.out (by assumption)))|exact HB.out)):Below n w W:=h
theorem zh{g:Nat}{r:Option Nat}{w W0 W:World}(h0:ah (ax w W0 g r))(h:ax w W g r:=by repeat(first|(with_reducible first|exact HK.out|apply ax.set_|apply QK|apply Ic|apply QL|refine YJ ?_ (ah.out (by assumption)) _)|exact HK.out)):ax w W g r:=h
theorem za{p:Prop}(h:p:=by first|(with_reducible assumption)|assumption):p:=h
theorem zs{p:Prop}(h:p:=by first|rfl|(simp;done)|(simp[*];done)):p:=h
theorem s1{α:Type}{xs:List α}{i:Nat}{a:α}:xs.toArray.setIfInBounds i a=(xs.set i a).toArray:=List.setIfInBounds_toArray xs i a
theorem s2{α:Type}{xs:List α}{a b:α}:(b::xs).set 0 a=a::xs:=List.set_cons_zero
theorem s3{α:Type}{xs:List α}{n:Nat}{a b:α}:(b::xs).set (n+1) a=b::xs.set n a:=List.set_cons_succ
abbrev At(p:Addr)(v:Value)(w:World):Prop:=w.cell? p=some v
abbrev akr(P Q:World→Prop)(w:World):Prop:=P w∧Q w
theorem an{P Q:World→Prop}{w:World}(h:P w)(g:Q w):akr P Q w:=⟨h,g⟩
theorem pX{w W:World}{p:Addr}{v:Value}(h:w.cell? p=some v)(hb:ah (Below w.heap.size w W)):W.cell? p=some v:=(hb.out.cell (World.block_lt_of_cell? w _ h)).trans h
abbrev B1(g:Nat)(x0:Value)(W:World):Prop:=W.cell? ⟨g,0,none⟩=some x0
theorem b1{W:World}{g t:Nat}{x0:Value}(h:ah (W.heap[g]?=some (.cells #[x0] t (0,0)))):B1 g x0 W:=(ak h.out 0).trans rfl
theorem c1{W:World}{g t:Nat}{x0:Value}(h:ah (W.heap[g]?=some (.cells #[x0] t (0,0)))):W.cell? ⟨g,0,none⟩=some x0∧W.frozen? ⟨g,0,none⟩=false:=⟨(ak h.out 0).trans rfl,aj h.out 0⟩
abbrev B2(g:Nat)(x0 x1:Value)(W:World):Prop:=W.cell? ⟨g,0,none⟩=some x0∧W.cell? ⟨g,1,none⟩=some x1
theorem b2{W:World}{g t:Nat}{x0 x1:Value}(h:ah (W.heap[g]?=some (.cells #[x0,x1] t (0,0)))):B2 g x0 x1 W:=⟨(ak h.out 0).trans rfl,(ak h.out 1).trans rfl⟩
theorem c2{W:World}{g t:Nat}{x0 x1:Value}(h:ah (W.heap[g]?=some (.cells #[x0,x1] t (0,0)))):W.cell? ⟨g,0,none⟩=some x0∧W.cell? ⟨g,1,none⟩=some x1∧W.frozen? ⟨g,0,none⟩=false∧W.frozen? ⟨g,1,none⟩=false:=⟨(ak h.out 0).trans rfl,(ak h.out 1).trans rfl,aj h.out 0,aj h.out 1⟩
abbrev B3(g:Nat)(x0 x1 x2:Value)(W:World):Prop:=W.cell? ⟨g,0,none⟩=some x0∧W.cell? ⟨g,1,none⟩=some x1∧W.cell? ⟨g,2,none⟩=some x2
theorem b3{W:World}{g t:Nat}{x0 x1 x2:Value}(h:ah (W.heap[g]?=some (.cells #[x0,x1,x2] t (0,0)))):B3 g x0 x1 x2 W:=⟨(ak h.out 0).trans rfl,(ak h.out 1).trans rfl,(ak h.out 2).trans rfl⟩
theorem c3{W:World}{g t:Nat}{x0 x1 x2:Value}(h:ah (W.heap[g]?=some (.cells #[x0,x1,x2] t (0,0)))):W.cell? ⟨g,0,none⟩=some x0∧W.cell? ⟨g,1,none⟩=some x1∧W.cell? ⟨g,2,none⟩=some x2∧W.frozen? ⟨g,0,none⟩=false∧W.frozen? ⟨g,1,none⟩=false∧W.frozen? ⟨g,2,none⟩=false:=⟨(ak h.out 0).trans rfl,(ak h.out 1).trans rfl,(ak h.out 2).trans rfl,aj h.out 0,aj h.out 1,aj h.out 2⟩
abbrev B4(g:Nat)(x0 x1 x2 x3:Value)(W:World):Prop:=W.cell? ⟨g,0,none⟩=some x0∧W.cell? ⟨g,1,none⟩=some x1∧W.cell? ⟨g,2,none⟩=some x2∧W.cell? ⟨g,3,none⟩=some x3
theorem b4{W:World}{g t:Nat}{x0 x1 x2 x3:Value}(h:ah (W.heap[g]?=some (.cells #[x0,x1,x2,x3] t (0,0)))):B4 g x0 x1 x2 x3 W:=⟨(ak h.out 0).trans rfl,(ak h.out 1).trans rfl,(ak h.out 2).trans rfl,(ak h.out 3).trans rfl⟩
theorem c4{W:World}{g t:Nat}{x0 x1 x2 x3:Value}(h:ah (W.heap[g]?=some (.cells #[x0,x1,x2,x3] t (0,0)))):W.cell? ⟨g,0,none⟩=some x0∧W.cell? ⟨g,1,none⟩=some x1∧W.cell? ⟨g,2,none⟩=some x2∧W.cell? ⟨g,3,none⟩=some x3∧W.frozen? ⟨g,0,none⟩=false∧W.frozen? ⟨g,1,none⟩=false∧W.frozen? ⟨g,2,none⟩=false∧W.frozen? ⟨g,3,none⟩=false:=⟨(ak h.out 0).trans rfl,(ak h.out 1).trans rfl,(ak h.out 2).trans rfl,(ak h.out 3).trans rfl,aj h.out 0,aj h.out 1,aj h.out 2,aj h.out 3⟩
abbrev B5(g:Nat)(x0 x1 x2 x3 x4:Value)(W:World):Prop:=W.cell? ⟨g,0,none⟩=some x0∧W.cell? ⟨g,1,none⟩=some x1∧W.cell? ⟨g,2,none⟩=some x2∧W.cell? ⟨g,3,none⟩=some x3∧W.cell? ⟨g,4,none⟩=some x4
theorem c5{W:World}{g t:Nat}{x0 x1 x2 x3 x4:Value}(h:ah (W.heap[g]?=some (.cells #[x0,x1,x2,x3,x4] t (0,0)))):W.cell? ⟨g,0,none⟩=some x0∧W.cell? ⟨g,1,none⟩=some x1∧W.cell? ⟨g,2,none⟩=some x2∧W.cell? ⟨g,3,none⟩=some x3∧W.cell? ⟨g,4,none⟩=some x4∧W.frozen? ⟨g,0,none⟩=false∧W.frozen? ⟨g,1,none⟩=false∧W.frozen? ⟨g,2,none⟩=false∧W.frozen? ⟨g,3,none⟩=false∧W.frozen? ⟨g,4,none⟩=false:=⟨(ak h.out 0).trans rfl,(ak h.out 1).trans rfl,(ak h.out 2).trans rfl,(ak h.out 3).trans rfl,(ak h.out 4).trans rfl,aj h.out 0,aj h.out 1,aj h.out 2,aj h.out 3,aj h.out 4⟩
abbrev B6(g:Nat)(x0 x1 x2 x3 x4 x5:Value)(W:World):Prop:=W.cell? ⟨g,0,none⟩=some x0∧W.cell? ⟨g,1,none⟩=some x1∧W.cell? ⟨g,2,none⟩=some x2∧W.cell? ⟨g,3,none⟩=some x3∧W.cell? ⟨g,4,none⟩=some x4∧W.cell? ⟨g,5,none⟩=some x5
theorem c6{W:World}{g t:Nat}{x0 x1 x2 x3 x4 x5:Value}(h:ah (W.heap[g]?=some (.cells #[x0,x1,x2,x3,x4,x5] t (0,0)))):W.cell? ⟨g,0,none⟩=some x0∧W.cell? ⟨g,1,none⟩=some x1∧W.cell? ⟨g,2,none⟩=some x2∧W.cell? ⟨g,3,none⟩=some x3∧W.cell? ⟨g,4,none⟩=some x4∧W.cell? ⟨g,5,none⟩=some x5∧W.frozen? ⟨g,0,none⟩=false∧W.frozen? ⟨g,1,none⟩=false∧W.frozen? ⟨g,2,none⟩=false∧W.frozen? ⟨g,3,none⟩=false∧W.frozen? ⟨g,4,none⟩=false∧W.frozen? ⟨g,5,none⟩=false:=⟨(ak h.out 0).trans rfl,(ak h.out 1).trans rfl,(ak h.out 2).trans rfl,(ak h.out 3).trans rfl,(ak h.out 4).trans rfl,(ak h.out 5).trans rfl,aj h.out 0,aj h.out 1,aj h.out 2,aj h.out 3,aj h.out 4,aj h.out 5⟩
abbrev B7(g:Nat)(x0 x1 x2 x3 x4 x5 x6:Value)(W:World):Prop:=W.cell? ⟨g,0,none⟩=some x0∧W.cell? ⟨g,1,none⟩=some x1∧W.cell? ⟨g,2,none⟩=some x2∧W.cell? ⟨g,3,none⟩=some x3∧W.cell? ⟨g,4,none⟩=some x4∧W.cell? ⟨g,5,none⟩=some x5∧W.cell? ⟨g,6,none⟩=some x6
theorem c7{W:World}{g t:Nat}{x0 x1 x2 x3 x4 x5 x6:Value}(h:ah (W.heap[g]?=some (.cells #[x0,x1,x2,x3,x4,x5,x6] t (0,0)))):W.cell? ⟨g,0,none⟩=some x0∧W.cell? ⟨g,1,none⟩=some x1∧W.cell? ⟨g,2,none⟩=some x2∧W.cell? ⟨g,3,none⟩=some x3∧W.cell? ⟨g,4,none⟩=some x4∧W.cell? ⟨g,5,none⟩=some x5∧W.cell? ⟨g,6,none⟩=some x6∧W.frozen? ⟨g,0,none⟩=false∧W.frozen? ⟨g,1,none⟩=false∧W.frozen? ⟨g,2,none⟩=false∧W.frozen? ⟨g,3,none⟩=false∧W.frozen? ⟨g,4,none⟩=false∧W.frozen? ⟨g,5,none⟩=false∧W.frozen? ⟨g,6,none⟩=false:=⟨(ak h.out 0).trans rfl,(ak h.out 1).trans rfl,(ak h.out 2).trans rfl,(ak h.out 3).trans rfl,(ak h.out 4).trans rfl,(ak h.out 5).trans rfl,(ak h.out 6).trans rfl,aj h.out 0,aj h.out 1,aj h.out 2,aj h.out 3,aj h.out 4,aj h.out 5,aj h.out 6⟩
abbrev B8(g:Nat)(x0 x1 x2 x3 x4 x5 x6 x7:Value)(W:World):Prop:=W.cell? ⟨g,0,none⟩=some x0∧W.cell? ⟨g,1,none⟩=some x1∧W.cell? ⟨g,2,none⟩=some x2∧W.cell? ⟨g,3,none⟩=some x3∧W.cell? ⟨g,4,none⟩=some x4∧W.cell? ⟨g,5,none⟩=some x5∧W.cell? ⟨g,6,none⟩=some x6∧W.cell? ⟨g,7,none⟩=some x7
theorem c8{W:World}{g t:Nat}{x0 x1 x2 x3 x4 x5 x6 x7:Value}(h:ah (W.heap[g]?=some (.cells #[x0,x1,x2,x3,x4,x5,x6,x7] t (0,0)))):W.cell? ⟨g,0,none⟩=some x0∧W.cell? ⟨g,1,none⟩=some x1∧W.cell? ⟨g,2,none⟩=some x2∧W.cell? ⟨g,3,none⟩=some x3∧W.cell? ⟨g,4,none⟩=some x4∧W.cell? ⟨g,5,none⟩=some x5∧W.cell? ⟨g,6,none⟩=some x6∧W.cell? ⟨g,7,none⟩=some x7∧W.frozen? ⟨g,0,none⟩=false∧W.frozen? ⟨g,1,none⟩=false∧W.frozen? ⟨g,2,none⟩=false∧W.frozen? ⟨g,3,none⟩=false∧W.frozen? ⟨g,4,none⟩=false∧W.frozen? ⟨g,5,none⟩=false∧W.frozen? ⟨g,6,none⟩=false∧W.frozen? ⟨g,7,none⟩=false:=⟨(ak h.out 0).trans rfl,(ak h.out 1).trans rfl,(ak h.out 2).trans rfl,(ak h.out 3).trans rfl,(ak h.out 4).trans rfl,(ak h.out 5).trans rfl,(ak h.out 6).trans rfl,(ak h.out 7).trans rfl,aj h.out 0,aj h.out 1,aj h.out 2,aj h.out 3,aj h.out 4,aj h.out 5,aj h.out 6,aj h.out 7⟩
abbrev B11(g:Nat)(x0 x1 x2 x3 x4 x5 x6 x7 x8 x9 x10:Value)(W:World):Prop:=W.cell? ⟨g,0,none⟩=some x0∧W.cell? ⟨g,1,none⟩=some x1∧W.cell? ⟨g,2,none⟩=some x2∧W.cell? ⟨g,3,none⟩=some x3∧W.cell? ⟨g,4,none⟩=some x4∧W.cell? ⟨g,5,none⟩=some x5∧W.cell? ⟨g,6,none⟩=some x6∧W.cell? ⟨g,7,none⟩=some x7∧W.cell? ⟨g,8,none⟩=some x8∧W.cell? ⟨g,9,none⟩=some x9∧W.cell? ⟨g,10,none⟩=some x10
theorem c11{W:World}{g t:Nat}{x0 x1 x2 x3 x4 x5 x6 x7 x8 x9 x10:Value}(h:ah (W.heap[g]?=some (.cells #[x0,x1,x2,x3,x4,x5,x6,x7,x8,x9,x10] t (0,0)))):W.cell? ⟨g,0,none⟩=some x0∧W.cell? ⟨g,1,none⟩=some x1∧W.cell? ⟨g,2,none⟩=some x2∧W.cell? ⟨g,3,none⟩=some x3∧W.cell? ⟨g,4,none⟩=some x4∧W.cell? ⟨g,5,none⟩=some x5∧W.cell? ⟨g,6,none⟩=some x6∧W.cell? ⟨g,7,none⟩=some x7∧W.cell? ⟨g,8,none⟩=some x8∧W.cell? ⟨g,9,none⟩=some x9∧W.cell? ⟨g,10,none⟩=some x10∧W.frozen? ⟨g,0,none⟩=false∧W.frozen? ⟨g,1,none⟩=false∧W.frozen? ⟨g,2,none⟩=false∧W.frozen? ⟨g,3,none⟩=false∧W.frozen? ⟨g,4,none⟩=false∧W.frozen? ⟨g,5,none⟩=false∧W.frozen? ⟨g,6,none⟩=false∧W.frozen? ⟨g,7,none⟩=false∧W.frozen? ⟨g,8,none⟩=false∧W.frozen? ⟨g,9,none⟩=false∧W.frozen? ⟨g,10,none⟩=false:=⟨(ak h.out 0).trans rfl,(ak h.out 1).trans rfl,(ak h.out 2).trans rfl,(ak h.out 3).trans rfl,(ak h.out 4).trans rfl,(ak h.out 5).trans rfl,(ak h.out 6).trans rfl,(ak h.out 7).trans rfl,(ak h.out 8).trans rfl,(ak h.out 9).trans rfl,(ak h.out 10).trans rfl,aj h.out 0,aj h.out 1,aj h.out 2,aj h.out 3,aj h.out 4,aj h.out 5,aj h.out 6,aj h.out 7,aj h.out 8,aj h.out 9,aj h.out 10⟩
abbrev B12(g:Nat)(x0 x1 x2 x3 x4 x5 x6 x7 x8 x9 x10 qy:Value)(W:World):Prop:=W.cell? ⟨g,0,none⟩=some x0∧W.cell? ⟨g,1,none⟩=some x1∧W.cell? ⟨g,2,none⟩=some x2∧W.cell? ⟨g,3,none⟩=some x3∧W.cell? ⟨g,4,none⟩=some x4∧W.cell? ⟨g,5,none⟩=some x5∧W.cell? ⟨g,6,none⟩=some x6∧W.cell? ⟨g,7,none⟩=some x7∧W.cell? ⟨g,8,none⟩=some x8∧W.cell? ⟨g,9,none⟩=some x9∧W.cell? ⟨g,10,none⟩=some x10∧W.cell? ⟨g,11,none⟩=some qy
theorem c12{W:World}{g t:Nat}{x0 x1 x2 x3 x4 x5 x6 x7 x8 x9 x10 qy:Value}(h:ah (W.heap[g]?=some (.cells #[x0,x1,x2,x3,x4,x5,x6,x7,x8,x9,x10,qy] t (0,0)))):W.cell? ⟨g,0,none⟩=some x0∧W.cell? ⟨g,1,none⟩=some x1∧W.cell? ⟨g,2,none⟩=some x2∧W.cell? ⟨g,3,none⟩=some x3∧W.cell? ⟨g,4,none⟩=some x4∧W.cell? ⟨g,5,none⟩=some x5∧W.cell? ⟨g,6,none⟩=some x6∧W.cell? ⟨g,7,none⟩=some x7∧W.cell? ⟨g,8,none⟩=some x8∧W.cell? ⟨g,9,none⟩=some x9∧W.cell? ⟨g,10,none⟩=some x10∧W.cell? ⟨g,11,none⟩=some qy∧W.frozen? ⟨g,0,none⟩=false∧W.frozen? ⟨g,1,none⟩=false∧W.frozen? ⟨g,2,none⟩=false∧W.frozen? ⟨g,3,none⟩=false∧W.frozen? ⟨g,4,none⟩=false∧W.frozen? ⟨g,5,none⟩=false∧W.frozen? ⟨g,6,none⟩=false∧W.frozen? ⟨g,7,none⟩=false∧W.frozen? ⟨g,8,none⟩=false∧W.frozen? ⟨g,9,none⟩=false∧W.frozen? ⟨g,10,none⟩=false∧W.frozen? ⟨g,11,none⟩=false:=⟨(ak h.out 0).trans rfl,(ak h.out 1).trans rfl,(ak h.out 2).trans rfl,(ak h.out 3).trans rfl,(ak h.out 4).trans rfl,(ak h.out 5).trans rfl,(ak h.out 6).trans rfl,(ak h.out 7).trans rfl,(ak h.out 8).trans rfl,(ak h.out 9).trans rfl,(ak h.out 10).trans rfl,(ak h.out 11).trans rfl,aj h.out 0,aj h.out 1,aj h.out 2,aj h.out 3,aj h.out 4,aj h.out 5,aj h.out 6,aj h.out 7,aj h.out 8,aj h.out 9,aj h.out 10,aj h.out 11⟩
abbrev B22(g:Nat)(x0 x1 x2 x3 x4 x5 x6 x7 x8 x9 x10 qy x12 x13 x14 YS x16 x17 x18 x19 x20 x21:Value)(W:World):Prop:=W.cell? ⟨g,0,none⟩=some x0∧W.cell? ⟨g,1,none⟩=some x1∧W.cell? ⟨g,2,none⟩=some x2∧W.cell? ⟨g,3,none⟩=some x3∧W.cell? ⟨g,4,none⟩=some x4∧W.cell? ⟨g,5,none⟩=some x5∧W.cell? ⟨g,6,none⟩=some x6∧W.cell? ⟨g,7,none⟩=some x7∧W.cell? ⟨g,8,none⟩=some x8∧W.cell? ⟨g,9,none⟩=some x9∧W.cell? ⟨g,10,none⟩=some x10∧W.cell? ⟨g,11,none⟩=some qy∧W.cell? ⟨g,12,none⟩=some x12∧W.cell? ⟨g,13,none⟩=some x13∧W.cell? ⟨g,14,none⟩=some x14∧W.cell? ⟨g,15,none⟩=some YS∧W.cell? ⟨g,16,none⟩=some x16∧W.cell? ⟨g,17,none⟩=some x17∧W.cell? ⟨g,18,none⟩=some x18∧W.cell? ⟨g,19,none⟩=some x19∧W.cell? ⟨g,20,none⟩=some x20∧W.cell? ⟨g,21,none⟩=some x21
theorem Mt{W:World}{g t:Nat}{x0 x1 x2 x3 x4 x5 x6 x7 x8 x9 x10 qy x12 x13 x14 YS x16 x17 x18 x19 x20 x21:Value}(h:ah (W.heap[g]?=some (.cells #[x0,x1,x2,x3,x4,x5,x6,x7,x8,x9,x10,qy,x12,x13,x14,YS,x16,x17,x18,x19,x20,x21] t (0,0)))):W.cell? ⟨g,0,none⟩=some x0∧W.cell? ⟨g,1,none⟩=some x1∧W.cell? ⟨g,2,none⟩=some x2∧W.cell? ⟨g,3,none⟩=some x3∧W.cell? ⟨g,4,none⟩=some x4∧W.cell? ⟨g,5,none⟩=some x5∧W.cell? ⟨g,6,none⟩=some x6∧W.cell? ⟨g,7,none⟩=some x7∧W.cell? ⟨g,8,none⟩=some x8∧W.cell? ⟨g,9,none⟩=some x9∧W.cell? ⟨g,10,none⟩=some x10∧W.cell? ⟨g,11,none⟩=some qy∧W.cell? ⟨g,12,none⟩=some x12∧W.cell? ⟨g,13,none⟩=some x13∧W.cell? ⟨g,14,none⟩=some x14∧W.cell? ⟨g,15,none⟩=some YS∧W.cell? ⟨g,16,none⟩=some x16∧W.cell? ⟨g,17,none⟩=some x17∧W.cell? ⟨g,18,none⟩=some x18∧W.cell? ⟨g,19,none⟩=some x19∧W.cell? ⟨g,20,none⟩=some x20∧W.cell? ⟨g,21,none⟩=some x21∧W.frozen? ⟨g,0,none⟩=false∧W.frozen? ⟨g,1,none⟩=false∧W.frozen? ⟨g,2,none⟩=false∧W.frozen? ⟨g,3,none⟩=false∧W.frozen? ⟨g,4,none⟩=false∧W.frozen? ⟨g,5,none⟩=false∧W.frozen? ⟨g,6,none⟩=false∧W.frozen? ⟨g,7,none⟩=false∧W.frozen? ⟨g,8,none⟩=false∧W.frozen? ⟨g,9,none⟩=false∧W.frozen? ⟨g,10,none⟩=false∧W.frozen? ⟨g,11,none⟩=false∧W.frozen? ⟨g,12,none⟩=false∧W.frozen? ⟨g,13,none⟩=false∧W.frozen? ⟨g,14,none⟩=false∧W.frozen? ⟨g,15,none⟩=false∧W.frozen? ⟨g,16,none⟩=false∧W.frozen? ⟨g,17,none⟩=false∧W.frozen? ⟨g,18,none⟩=false∧W.frozen? ⟨g,19,none⟩=false∧W.frozen? ⟨g,20,none⟩=false∧W.frozen? ⟨g,21,none⟩=false:=⟨(ak h.out 0).trans rfl,(ak h.out 1).trans rfl,(ak h.out 2).trans rfl,(ak h.out 3).trans rfl,(ak h.out 4).trans rfl,(ak h.out 5).trans rfl,(ak h.out 6).trans rfl,(ak h.out 7).trans rfl,(ak h.out 8).trans rfl,(ak h.out 9).trans rfl,(ak h.out 10).trans rfl,(ak h.out 11).trans rfl,(ak h.out 12).trans rfl,(ak h.out 13).trans rfl,(ak h.out 14).trans rfl,(ak h.out 15).trans rfl,(ak h.out 16).trans rfl,(ak h.out 17).trans rfl,(ak h.out 18).trans rfl,(ak h.out 19).trans rfl,(ak h.out 20).trans rfl,(ak h.out 21).trans rfl,aj h.out 0,aj h.out 1,aj h.out 2,aj h.out 3,aj h.out 4,aj h.out 5,aj h.out 6,aj h.out 7,aj h.out 8,aj h.out 9,aj h.out 10,aj h.out 11,aj h.out 12,aj h.out 13,aj h.out 14,aj h.out 15,aj h.out 16,aj h.out 17,aj h.out 18,aj h.out 19,aj h.out 20,aj h.out 21⟩
abbrev B24(g:Nat)(x0 x1 x2 x3 x4 x5 x6 x7 x8 x9 x10 qy x12 x13 x14 YS x16 x17 x18 x19 x20 x21 x22 x23:Value)(W:World):Prop:=W.cell? ⟨g,0,none⟩=some x0∧W.cell? ⟨g,1,none⟩=some x1∧W.cell? ⟨g,2,none⟩=some x2∧W.cell? ⟨g,3,none⟩=some x3∧W.cell? ⟨g,4,none⟩=some x4∧W.cell? ⟨g,5,none⟩=some x5∧W.cell? ⟨g,6,none⟩=some x6∧W.cell? ⟨g,7,none⟩=some x7∧W.cell? ⟨g,8,none⟩=some x8∧W.cell? ⟨g,9,none⟩=some x9∧W.cell? ⟨g,10,none⟩=some x10∧W.cell? ⟨g,11,none⟩=some qy∧W.cell? ⟨g,12,none⟩=some x12∧W.cell? ⟨g,13,none⟩=some x13∧W.cell? ⟨g,14,none⟩=some x14∧W.cell? ⟨g,15,none⟩=some YS∧W.cell? ⟨g,16,none⟩=some x16∧W.cell? ⟨g,17,none⟩=some x17∧W.cell? ⟨g,18,none⟩=some x18∧W.cell? ⟨g,19,none⟩=some x19∧W.cell? ⟨g,20,none⟩=some x20∧W.cell? ⟨g,21,none⟩=some x21∧W.cell? ⟨g,22,none⟩=some x22∧W.cell? ⟨g,23,none⟩=some x23
theorem c24{W:World}{g t:Nat}{x0 x1 x2 x3 x4 x5 x6 x7 x8 x9 x10 qy x12 x13 x14 YS x16 x17 x18 x19 x20 x21 x22 x23:Value}(h:ah (W.heap[g]?=some (.cells #[x0,x1,x2,x3,x4,x5,x6,x7,x8,x9,x10,qy,x12,x13,x14,YS,x16,x17,x18,x19,x20,x21,x22,x23] t (0,0)))):W.cell? ⟨g,0,none⟩=some x0∧W.cell? ⟨g,1,none⟩=some x1∧W.cell? ⟨g,2,none⟩=some x2∧W.cell? ⟨g,3,none⟩=some x3∧W.cell? ⟨g,4,none⟩=some x4∧W.cell? ⟨g,5,none⟩=some x5∧W.cell? ⟨g,6,none⟩=some x6∧W.cell? ⟨g,7,none⟩=some x7∧W.cell? ⟨g,8,none⟩=some x8∧W.cell? ⟨g,9,none⟩=some x9∧W.cell? ⟨g,10,none⟩=some x10∧W.cell? ⟨g,11,none⟩=some qy∧W.cell? ⟨g,12,none⟩=some x12∧W.cell? ⟨g,13,none⟩=some x13∧W.cell? ⟨g,14,none⟩=some x14∧W.cell? ⟨g,15,none⟩=some YS∧W.cell? ⟨g,16,none⟩=some x16∧W.cell? ⟨g,17,none⟩=some x17∧W.cell? ⟨g,18,none⟩=some x18∧W.cell? ⟨g,19,none⟩=some x19∧W.cell? ⟨g,20,none⟩=some x20∧W.cell? ⟨g,21,none⟩=some x21∧W.cell? ⟨g,22,none⟩=some x22∧W.cell? ⟨g,23,none⟩=some x23∧W.frozen? ⟨g,0,none⟩=false∧W.frozen? ⟨g,1,none⟩=false∧W.frozen? ⟨g,2,none⟩=false∧W.frozen? ⟨g,3,none⟩=false∧W.frozen? ⟨g,4,none⟩=false∧W.frozen? ⟨g,5,none⟩=false∧W.frozen? ⟨g,6,none⟩=false∧W.frozen? ⟨g,7,none⟩=false∧W.frozen? ⟨g,8,none⟩=false∧W.frozen? ⟨g,9,none⟩=false∧W.frozen? ⟨g,10,none⟩=false∧W.frozen? ⟨g,11,none⟩=false∧W.frozen? ⟨g,12,none⟩=false∧W.frozen? ⟨g,13,none⟩=false∧W.frozen? ⟨g,14,none⟩=false∧W.frozen? ⟨g,15,none⟩=false∧W.frozen? ⟨g,16,none⟩=false∧W.frozen? ⟨g,17,none⟩=false∧W.frozen? ⟨g,18,none⟩=false∧W.frozen? ⟨g,19,none⟩=false∧W.frozen? ⟨g,20,none⟩=false∧W.frozen? ⟨g,21,none⟩=false∧W.frozen? ⟨g,22,none⟩=false∧W.frozen? ⟨g,23,none⟩=false:=⟨(ak h.out 0).trans rfl,(ak h.out 1).trans rfl,(ak h.out 2).trans rfl,(ak h.out 3).trans rfl,(ak h.out 4).trans rfl,(ak h.out 5).trans rfl,(ak h.out 6).trans rfl,(ak h.out 7).trans rfl,(ak h.out 8).trans rfl,(ak h.out 9).trans rfl,(ak h.out 10).trans rfl,(ak h.out 11).trans rfl,(ak h.out 12).trans rfl,(ak h.out 13).trans rfl,(ak h.out 14).trans rfl,(ak h.out 15).trans rfl,(ak h.out 16).trans rfl,(ak h.out 17).trans rfl,(ak h.out 18).trans rfl,(ak h.out 19).trans rfl,(ak h.out 20).trans rfl,(ak h.out 21).trans rfl,(ak h.out 22).trans rfl,(ak h.out 23).trans rfl,aj h.out 0,aj h.out 1,aj h.out 2,aj h.out 3,aj h.out 4,aj h.out 5,aj h.out 6,aj h.out 7,aj h.out 8,aj h.out 9,aj h.out 10,aj h.out 11,aj h.out 12,aj h.out 13,aj h.out 14,aj h.out 15,aj h.out 16,aj h.out 17,aj h.out 18,aj h.out 19,aj h.out 20,aj h.out 21,aj h.out 22,aj h.out 23⟩
def bm(n b:Nat):Array Bool:=((List.range n).map fun i=>b.testBit i).toArray
section
variable {P:Program} {ops:Array Oper} {Q:Exit→Act→World→Prop} {md:Region.Mode} {S:World→Prop} {ds:List Nat}
theorem pu{v:Value}{a':Act}{oi:Oper}{fuel:Nat}{l:Array Bool}{a:Act}{w:World}(i:Nat)(N:Option Tmp)(l':Array Bool)(hi:ops[i]?=some oi)(hN:oi.dst=N)
 (h:bJ P md ops Q S ds fuel l' a' w)
 (hy:Yields P ops oi v a:=by first|(refine Or.inl ⟨by rfl,?_⟩;intro w';go_simp;with_reducible rfl)|(refine Or.inl ⟨by rfl,?_⟩;intro w';go_simp;simp only[Instr.field,asAgg];go_simp;with_reducible rfl))
 (ha:a.put N v=a':=by(simp only[Act.put,s1,s2,s3,gI,iB];rfl))
 (hc:ME md ops l l' i=true:=by first|exact JK HT_.out (by kernel_rfl)|kernel_rfl)
 (hQ:∀c a w,Q (.panic c) (a.put oi.dst v) w→Q (.panic c) a w:=by exact fun _ _ _ h=>h):bJ P md ops Q S ds (fuel+1) l a w:=TA l' hi hN hc hQ hy ha h
theorem pv{a':Act}{oi:Oper}{fuel:Nat}{l:Array Bool}{a:Act}{w:World}(i:Nat)(N:Option Tmp)(l':Array Bool)(hi:ops[i]?=some oi)(hN:oi.dst=N)
 (h:bJ P md ops Q S ds fuel l' a' w)
 (hy:Yields P ops oi undef a:=by exact(Or.inr ⟨by rfl,rfl⟩))
 (ha:a.put N undef=a':=by(simp only[Act.put,s1,s2,s3,gI,iB];rfl))
 (hc:ME md ops l l' i=true:=by first|exact JK HT_.out (by kernel_rfl)|kernel_rfl)
 (hQ:∀c a w,Q (.panic c) (a.put oi.dst undef) w→Q (.panic c) a w:=by exact fun _ _ _ h=>h):bJ P md ops Q S ds (fuel+1) l a w:=TA l' hi hN hc hQ hy ha h
theorem tk{v:Value}{a':Act}{oi:Oper}{fuel:Nat}{l:Array Bool}{a:Act}{w:World}(i:Nat)(N:Option Tmp)(l':Array Bool)(hi:ops[i]?=some oi)(hN:oi.dst=N)(hS:S w)
 (h:bJ P md ops Q S ds fuel l' a' w)
 (hy:YieldsIf P ops S oi v a:=by first|(refine Or.inl ⟨by rfl,?_⟩;intro w' hs;go_simp;with_reducible rfl)|(refine Or.inl ⟨by rfl,?_⟩;intro w' hs;(try simp only[akr,At,B1,B2,B3,B4,B5,B6,B7,B8,B11,B12,B22,B24,and_assoc,Go.IntWalk.toNatUp]at hs);go_simp;with_reducible rfl))
 (ha:a.put N v=a':=by(simp only[Act.put,s1,s2,s3,gI,iB];rfl))
 (hc:takeB md ops ds l l' i=true:=by first|exact qI HT_.out HW_.out (by kernel_rfl)|kernel_rfl)
 (hQ:∀c a w,Q (.panic c) (a.put oi.dst v) w→Q (.panic c) a w:=by exact fun _ _ _ h=>h):bJ P md ops Q S ds (fuel+1) l a w:=take_ l' hi hN hc hQ hy hS ha h
theorem nm{fuel:Nat}{l:Array Bool}{a a':Act}{w:World}(h:bJ P md ops Q S ds fuel l a' w)(ha:a=a':=by(show Act.put _ (some _) _=_;simp only[Act.put,s1,s2,s3,gI,iB];rfl)):bJ P md ops Q S ds fuel l a w:=Db ha h
end
section
variable {P:Program} {ops:Array Oper} {rest:List Oper} {o:Oper} {a:Act} {Q:Exit→Act→World→Prop} {W:World}
theorem gq{aUM:Array Operand}{ts:Array TypeId}(f:FuncId)(_ho:o.op= .call {callee:=.value (.func f),args:=aUM,argTypes:=ts})(h:wpList P ops Q (o::rest) a W):wpList P ops Q (o::rest) a W:=h
theorem gd(N:Tmp)(_hN:o.dst=some N)(h:wpList P ops Q (o::rest) a W):wpList P ops Q (o::rest) a W:=h
theorem gl{f:FuncId}{fn:Func}{aUM:Array Operand}{ts:Array TypeId}(N:Option Tmp)(hf:P.funcs[f]?=some fn)(args:Array Value)
 (h:Calls P f args W fun e w'=>∃v,e= .returned v∧wpList P ops Q rest (a.put N v) w')
 (hd:o.dst=N:=by rfl)(hg:o.guard=none:=by rfl)(hname:(fn.name== "runtime.NumGoroutine")=false:=by kernel_rfl)(hb:fn.body.isSome=true:=by rfl)
 (hop:o.op= .call {callee:=.value (.func f),args:=aUM,argTypes:=ts}:=by rfl)
 (hargs:aUM.map a.eval=args:=by((try simp only[List.map_toArray,List.map_cons,List.map_nil]);first|done|rfl|(simp only[List.length_drop,List.length_take];rfl))):wpList P ops Q (o::rest) a W:=QE N hd hg hf hname hb args hop hargs h
theorem bx{N:Tmp}{cs:Array Value}{t:TypeId}
 (h:∀g,g=W.heap.size→∀w1,w1.heap[g]?=some (.cells cs t (0,0))→Below W.heap.size W w1→wpList P ops Q rest (a.put o.dst (.pointer (some ⟨g,0,none⟩))) w1)
 (hd:o.dst=some N:=by rfl)(hgd:o.guard=none:=by rfl)
 (hr:(execOp a.eval o).run P W= .ok (.value (.pointer (some ⟨W.heap.size,0,none⟩))) (W.alloc (.cells cs t (0,0))):=by first|(go_simp;done)|(go_simp;rfl)):wpList P ops Q (o::rest) a W:=Ie hgd hd hr h
end
section
variable {P:Program} {ops:Array Oper} {Q:Exit→Act→World→Prop}
theorem gs{oi:Oper}{N:Option Tmp}{a:Act}{w:World}{K:Act→World→Prop}{f:FuncId}{fn:Func}{aUM:Array Operand}{ts:Array TypeId}(hf:P.funcs[f]?=some fn)(args:Array Value)
 (h:Calls P f args w fun e w'=>∃v,e= .returned v∧K (a.put N v) w')
 (hname:(fn.name== "runtime.NumGoroutine")=false:=by kernel_rfl)(hb:fn.body.isSome=true:=by rfl)
 (hw:Region.wanted oi (yielded ops a.tmps)=true:=by rfl)(hN:oi.dst=N:=by rfl)(hop:oi.op= .call {callee:=.value (.func f),args:=aUM,argTypes:=ts}:=by rfl)
 (hargs:aUM.map a.eval=args:=by((try simp only[List.map_toArray,List.map_cons,List.map_nil]);first|done|rfl|(simp only[List.length_drop,List.length_take];rfl))):if Region.wanted oi (yielded ops a.tmps)=true then Oper.wp P oi a w K Q else K (a.put N undef) w:=akn hf hname hb args hw hN hop hargs h
end
theorem ob{α β:Type}{o:Option α}{f:α→Option β}{r:β}(h:o.bind f=some r):∃t,ah (o=some t)∧f t=some r:=by
 obtain⟨t,h1,h2⟩:=Option.bind_eq_some_iff.mp h
 exact⟨t,⟨h1⟩,h2⟩
section
theorem kb{W0 W W1:World}{g:Nat}{o:Obj}(h0:ah (W0.heap[g]?=some o))(hb:Below W.heap.size W W1)(m:vK W0 W:=by(with_reducible repeat(first|exact vK.refl _|apply vK.alloc|apply vK.drewN|apply vK.drew))):ah (W1.heap[g]?=some o):=⟨dR (zk h0 m) hb⟩
theorem nb{W0 W:World}{g g':Nat}{o:Obj}(h0:ah (W0.heap[g]?=some o))(hg:g'=W.heap.size)(m:vK W0 W:=by(with_reducible repeat(first|exact vK.refl _|apply vK.alloc|apply vK.drewN|apply vK.drew))):ah (g≠g')∧ah (g'≠g):=by
 have h:=gJ (zk h0 m)
 exact⟨⟨by omega⟩,⟨by omega⟩⟩
theorem gw{g:Nat}{w W0 W:World}(h0:ah (Below w.heap.size w W0))(hg:g=W.heap.size)(h:Below w.heap.size w W:=by repeat(first|(with_reducible first|exact HB.out|apply eY|apply dY|apply dF|refine oJ ?_ (ah.out (by assumption)))|exact HB.out)):ah (w.heap.size≤g):=⟨by rw[hg];exact aJ h⟩
theorem sp{c:Prop}[Decidable c]{α:Type}{a b r:α}(h:(if c then a else b)=r):(c∧a=r)∨(¬c∧b=r):=by
 by_cases hc:c
 ·rw[if_pos hc]at h;exact .inl ⟨hc,h⟩
 ·rw[if_neg hc]at h;exact .inr ⟨hc,h⟩
theorem zm{p:Prop}(h:p:=by repeat' first|(with_reducible exact gM.refl _)|(with_reducible exact gM.none _)|(with_reducible apply mW)|(with_reducible apply ih1)|(with_reducible apply ih2)|(with_reducible apply ih3)|(with_reducible apply ih4)|(with_reducible apply ih5)|(with_reducible apply ih6)|(with_reducible apply ih7)|(with_reducible apply m0)|(with_reducible apply m1)|(with_reducible apply m2)|(with_reducible apply m3)|(with_reducible apply m4)|(with_reducible apply m5)|(with_reducible apply m6)|(with_reducible apply m7)|(with_reducible apply m8)|(with_reducible apply m9)|(with_reducible apply m10)|(with_reducible apply m11)|(with_reducible apply m12)|(with_reducible apply m13)|(with_reducible apply m14)|(with_reducible apply m15)|(with_reducible apply m16)|(with_reducible apply m17)|(with_reducible apply m18)|(with_reducible apply m19)|(with_reducible apply m20)|(with_reducible apply m21)|(with_reducible apply m22)|(with_reducible apply m23)|(with_reducible refine gM.ite ?_ ?_)|(with_reducible refine gM.bind ?_ (fun _=>?_))|apply mW|apply ih1|apply ih2|apply ih3|apply ih4|apply ih5|apply ih6|apply ih7|apply m0|apply m1|apply m2|apply m3|apply m4|apply m5|apply m6|apply m7|apply m8|apply m9|apply m10|apply m11|apply m12|apply m13|apply m14|apply m15|apply m16|apply m17|apply m18|apply m19|apply m20|apply m21|apply m22|apply m23|exact gM.none _|refine gM.ite ?_ ?_|refine gM.bind ?_ (fun _=>?_)):p:=h
theorem rs{α:Type}{d:Kd α}{e base:Nat}{ok:Nat→Prop}{v:Value}{xs:List α}{W:World}(h:d.R e W base ok v xs)(P:Program)(w:World)(a:Addr)(m:Mode):(store a v m).run P w=match w.cell? a with
 |some _=>if w.frozen? a then .halt (.unsupported (.unsafePointer "a write to bytes that a string shares")) w else .ok () (w.setCell a v)
 |none=>match w.farStore P a v (m== .atomic)with
  |.ok (w',_)=>.ok () w'
  |.error h=>.halt h w:=run_store P w a v m (by obtain⟨A,c,rfl⟩:=Kd.R_slice h;rfl)
inductive yK(ok:Nat→Prop)(W0:World):World→Prop
 |refl:yK ok W0 W0
 |alloc {W:World} (h:yK ok W0 W) (o:Obj):yK ok W0 (W.alloc o)
 |drew {W:World} (h:yK ok W0 W):yK ok W0 W.drew
 |drewN {W:World} (h:yK ok W0 W) (m:Nat):yK ok W0 (W.drewN m)
 |set {W:World} (h:yK ok W0 W) {p:Addr} (hp:∀k,ok k→k≠p.block) (u:Value):yK ok W0 (W.setCell p u)
theorem qj{α:Type}{d:Kd α}{e base:Nat}{ok:Nat→Prop}{v:Value}{xs:List α}{W0 W:World}(h0:d.R e W0 base ok v xs)(m:yK ok W0 W:=by repeat(first|(with_reducible first|exact yK.refl|apply yK.alloc|apply yK.drewN|apply yK.drew)|((with_reducible apply yK.set);(case hp=>first|exact fun _ hk=>hk.2|exact fun _ hk=>hk.1.2|exact fun _ hk=>hk.1.1.2|exact fun _ hk=>hk.1.1.1.2)))):d.R e W base ok v xs:=by
 induction m with
 |refl=>exact h0
 |alloc _ o ih=>exact Kd.R_alloc ih o
 |drew _ ih=>exact Kd.R_drew ih
 |drewN _ n ih=>exact Kd.R_drewN ih n
 |set _ hp u ih=>exact Kd.R_far ih hp u
inductive Mv(g:Nat)(W0:World)(c0:Array Value):World→Array Value→Prop
 |refl:Mv g W0 c0 W0 c0
 |alloc {W:World} {cs:Array Value} (h:Mv g W0 c0 W cs) (o:Obj):Mv g W0 c0 (W.alloc o) cs
 |drew {W:World} {cs:Array Value} (h:Mv g W0 c0 W cs):Mv g W0 c0 W.drew cs
 |drewN {W:World} {cs:Array Value} (h:Mv g W0 c0 W cs) (m:Nat):Mv g W0 c0 (W.drewN m) cs
 |put {W:World} {cs:Array Value} (h:Mv g W0 c0 W cs) (i:Nat) (u:Value):Mv g W0 c0 (W.setCell ⟨g,i,none⟩ u) (cs.setIfInBounds i u)
 |far {W:World} {cs:Array Value} (h:Mv g W0 c0 W cs) {p:Addr} (hp:g≠p.block) (u:Value):Mv g W0 c0 (W.setCell p u) cs
theorem zp{W0 W:World}{g t:Nat}{c0 c1 cs:Array Value}(h0:ah (W0.heap[g]?=some (.cells c0 t (0,0))))(m:Mv g W0 c0 W c1:=by repeat(first|(with_reducible first|exact Mv.refl|apply Mv.alloc|apply Mv.drewN|apply Mv.drew|apply Mv.put)|((with_reducible apply Mv.far);(case hp=>exact ah.out (by assumption)))))(e:c1=cs:=by first|(with_reducible rfl)|kernel_rfl):W.heap[g]?=some (.cells cs t (0,0)):=by
 subst e
 induction m with
 |refl=>exact h0.out
 |alloc _ o ih=>exact wY ih o
 |drew _ ih=>exact dw ih
 |drewN _ n ih=>exact wZ ih n
 |put _ i u ih=>exact TJ ih i u rfl
 |far _ hp u ih=>exact TG ih hp u
theorem zq{α:Type}{d:Kd α}{e base:Nat}{ok:Nat→Prop}{v:Value}{xs:List α}{W0 W:World}(h0:d.R e W0 base ok v xs)(m:vK W0 W:=by(with_reducible repeat(first|exact vK.refl _|apply vK.alloc|apply vK.drewN|apply vK.drew))):d.R e W base ok v xs:=zr ⟨h0⟩ m
section
variable {P:Program} {ops:Array Oper} {Q:Exit→Act→World→Prop}
theorem st{id:Nat}{a:Act}{w:World}{S:World→Prop}(n:Nat)(hS:S w.drew)(h:S w.drew→bJ P .any ops Q S [] n (Array.replicate n false) a w.drew)(hm:P.follows .mixedOrders =true:=by kernel_rfl)(hn:ops.size=n:=by rfl):(Code.region id ops true).wp P Q a w:=uG (ds:=[]) _ hm hn rfl hS h
end
end
end Go.Proofs.YtokblgdgpnakpaaGreat.Lm
namespace Go.Proofs.YtokblgdgpnakpaaGreat.PFnEndLess
open Go.RowKit Go.Proofs.YtokblgdgpnakpaaGreatW.PrintWords Go.Proofs.YtokblgdgpnakpaaGreatW.PrintLast Go.Proofs.YtokblgdgpnakpaaGreatW.PrintMore Go.Proofs.YtokblgdgpnakpaaGreat.Lm
attribute [local go_sem] bA bn bV bW aW aV bE bF
def aks:Option Int→Value
 |none=>.nilIface
 |some c=>.iface 0 (.int .i64 c)
theorem gY:aks none= .nilIface :=rfl
theorem gZ(c:Int):aks (some c)= .iface 0 (.int .i64 c):=rfl
theorem ze{p:Prop}(h:p:=by first|rfl|(simp[gY,gZ]<;>rfl)|(simp[*,gY,gZ]<;>rfl)|(simp[gY,gZ];exact(by intro l_;cases l_<;>rfl:∀l_:List UInt8,l_.isEmpty= !(l_ != [])) _)):p:=h
theorem info3:(Tryz.prog.info? 3).map (fun i=>(i.zero,i.size,i.bytes))=some (some (.int .i64 0),1,8):=by kernel_rfl
theorem info5:(Tryz.prog.info? 5).map (fun i=>(i.zero,i.size,i.bytes))=some (some (.int .u8 0),1,1):=by kernel_rfl
theorem yL:(Tryz.prog.info? 89).map (fun i=>(i.zero,i.size,i.bytes))=some (some (.agg #[(.string ⟨#[]⟩),(.string ⟨#[]⟩),(.bool false)]),3,40):=by kernel_rfl
structure bf where
 f0:ByteArray
 f1:ByteArray
 f2:Bool
def z89:bf:=⟨(⟨#[]⟩:ByteArray),(⟨#[]⟩:ByteArray),false⟩
def iH:Kd bf:=Kd.iso (Kd.pair Kd.string (Kd.pair Kd.string Kd.bool)) (fun x:bf=>(x.f0,x.f1,x.f2))
theorem MU{w:World}{x:bf}{cs:List Value}(h:iH.K w x cs):cs=[.string x.f0,.string x.f1,.bool x.f2]:=by
 obtain⟨_,_,rfl,rfl,⟨_,_,rfl,rfl,rfl⟩⟩:=h
 exact rfl
theorem lK(w:World)(base:Nat)(ok:Nat→Prop)(x:bf):iH.M w base ok x [.string x.f0,.string x.f1,.bool x.f2]:=⟨[.string x.f0],[.string x.f1,.bool x.f2],rfl,rfl,⟨[.string x.f1],[.bool x.f2],rfl,rfl,rfl⟩⟩
def aU(xs:List bf)(i:Int):bf:=xs.getD i.toNat z89
theorem eT{w:World}{A:Option Addr}{n:Nat}{xs:List bf}(h:Kd.C iH w A n xs)(i:Int)(h0:0≤i)(h1:i<n):∃ad,A=some ad∧w.cell? (ad.add (i.toNat*3))=some (.string (aU xs i).f0)∧w.cell? ⟨(ad.add (i.toNat*3)).block,(ad.add (i.toNat*3)).off+1,none⟩=some (.string (aU xs i).f1)∧w.cell? ⟨(ad.add (i.toNat*3)).block,(ad.add (i.toNat*3)).off+2,none⟩=some (.bool (aU xs i).f2):=by
 obtain⟨ad,c,e,_,hK,hc0⟩:=Kd.C_get h z89 i h0 h1
 have hc:∀j u,c[j]?=some u→w.cell? (ad.add (i.toNat*3+j))=some u:=hc0
 obtain rfl:=MU hK
 exact⟨ad,e,hc 0 _ rfl,by rw[←iV _ _ 1 (by omega)];exact hc 1 _ rfl,by rw[←iV _ _ 2 (by omega)];exact hc 2 _ rfl⟩
structure S28 where
 f0:Int
 f1:Int
def z28:S28:=⟨(0:Int),(0:Int)⟩
def k28:Kd S28:=Kd.iso (Kd.pair (Kd.int .i64) (Kd.int .i64)) (fun x:S28=>(x.f0,x.f1))
theorem YT{w:World}{x:S28}{cs:List Value}(h:k28.K w x cs):cs=[.int .i64 x.f0,.int .i64 x.f1]:=by
 obtain⟨_,_,rfl,rfl,rfl⟩:=h
 exact rfl
theorem aek(w:World)(x:S28):k28.K w x [.int .i64 x.f0,.int .i64 x.f1]:=⟨[.int .i64 x.f0],[.int .i64 x.f1],rfl,rfl,rfl⟩
structure uF where
 f0:Int
 f1:Int
 f2:(List bf)
 f3:ByteArray
 f4:Bool
 f5:Bool
 f6:Int
 f7:(List bf)
 f8:ByteArray
 f9:Bool
 f10:S28
def z39:uF:=⟨(0:Int),(0:Int),([]:List bf),(⟨#[]⟩:ByteArray),false,false,(0:Int),([]:List bf),(⟨#[]⟩:ByteArray),false,z28⟩
def k39:Kd uF:=Kd.iso (Kd.pair (Kd.int .i64) (Kd.pair (Kd.int .i64) (Kd.pair (Kd.slice 89 iH) (Kd.pair Kd.string (Kd.pair Kd.bool (Kd.pair Kd.bool (Kd.pair (Kd.int .i64) (Kd.pair (Kd.slice 89 iH) (Kd.pair Kd.string (Kd.pair Kd.bool k28)))))))))) (fun x:uF=>(x.f0,x.f1,x.f2,x.f3,x.f4,x.f5,x.f6,x.f7,x.f8,x.f9,x.f10))
theorem MV{w:World}{x:uF}{cs:List Value}(h:k39.K w x cs):∃A2 c2 A7 c7,cs=[.int .i64 x.f0,.int .i64 x.f1,.slice A2 x.f2.length c2,.string x.f3,.bool x.f4,.bool x.f5,.int .i64 x.f6,.slice A7 x.f7.length c7,.string x.f8,.bool x.f9,.int .i64 x.f10.f0,.int .i64 x.f10.f1]∧x.f2.length≤c2∧iH.C w A2 x.f2.length x.f2∧x.f7.length≤c7∧iH.C w A7 x.f7.length x.f7:=by
 obtain⟨_,_,rfl,rfl,⟨_,_,rfl,rfl,⟨_,_,rfl,⟨A2,c2,rfl,l2,g2⟩,⟨_,_,rfl,rfl,⟨_,_,rfl,rfl,⟨_,_,rfl,rfl,⟨_,_,rfl,rfl,⟨_,_,rfl,⟨A7,c7,rfl,l7,g7⟩,⟨_,_,rfl,rfl,⟨_,_,rfl,rfl,s10⟩⟩⟩⟩⟩⟩⟩⟩⟩⟩:=h
 obtain rfl:=YT s10
 exact⟨A2,c2,A7,c7,rfl,l2,g2,l7,g7⟩
theorem ael(w:World)(x:uF){A2:Option Addr}{c2:Nat}(l2:x.f2.length≤c2)(g2:iH.C w A2 x.f2.length x.f2){A7:Option Addr}{c7:Nat}(l7:x.f7.length≤c7)(g7:iH.C w A7 x.f7.length x.f7):k39.K w x [.int .i64 x.f0,.int .i64 x.f1,.slice A2 x.f2.length c2,.string x.f3,.bool x.f4,.bool x.f5,.int .i64 x.f6,.slice A7 x.f7.length c7,.string x.f8,.bool x.f9,.int .i64 x.f10.f0,.int .i64 x.f10.f1]:=⟨[.int .i64 x.f0],[.int .i64 x.f1,.slice A2 x.f2.length c2,.string x.f3,.bool x.f4,.bool x.f5,.int .i64 x.f6,.slice A7 x.f7.length c7,.string x.f8,.bool x.f9,.int .i64 x.f10.f0,.int .i64 x.f10.f1],rfl,rfl,⟨[.int .i64 x.f1],[.slice A2 x.f2.length c2,.string x.f3,.bool x.f4,.bool x.f5,.int .i64 x.f6,.slice A7 x.f7.length c7,.string x.f8,.bool x.f9,.int .i64 x.f10.f0,.int .i64 x.f10.f1],rfl,rfl,⟨[.slice A2 x.f2.length c2],[.string x.f3,.bool x.f4,.bool x.f5,.int .i64 x.f6,.slice A7 x.f7.length c7,.string x.f8,.bool x.f9,.int .i64 x.f10.f0,.int .i64 x.f10.f1],rfl,⟨A2,c2,rfl,l2,g2⟩,⟨[.string x.f3],[.bool x.f4,.bool x.f5,.int .i64 x.f6,.slice A7 x.f7.length c7,.string x.f8,.bool x.f9,.int .i64 x.f10.f0,.int .i64 x.f10.f1],rfl,rfl,⟨[.bool x.f4],[.bool x.f5,.int .i64 x.f6,.slice A7 x.f7.length c7,.string x.f8,.bool x.f9,.int .i64 x.f10.f0,.int .i64 x.f10.f1],rfl,rfl,⟨[.bool x.f5],[.int .i64 x.f6,.slice A7 x.f7.length c7,.string x.f8,.bool x.f9,.int .i64 x.f10.f0,.int .i64 x.f10.f1],rfl,rfl,⟨[.int .i64 x.f6],[.slice A7 x.f7.length c7,.string x.f8,.bool x.f9,.int .i64 x.f10.f0,.int .i64 x.f10.f1],rfl,rfl,⟨[.slice A7 x.f7.length c7],[.string x.f8,.bool x.f9,.int .i64 x.f10.f0,.int .i64 x.f10.f1],rfl,⟨A7,c7,rfl,l7,g7⟩,⟨[.string x.f8],[.bool x.f9,.int .i64 x.f10.f0,.int .i64 x.f10.f1],rfl,rfl,⟨[.bool x.f9],[.int .i64 x.f10.f0,.int .i64 x.f10.f1],rfl,rfl,(aek w x.f10)⟩⟩⟩⟩⟩⟩⟩⟩⟩⟩
def fV(xs:List uF)(i:Int):uF:=xs.getD i.toNat z39
theorem YU{w:World}{A:Option Addr}{n:Nat}{xs:List uF}(h:Kd.C k39 w A n xs)(i:Int)(h0:0≤i)(h1:i<n):∃ad A2 c2 A7 c7,A=some ad∧w.cell? (ad.add (i.toNat*12))=some (.int .i64 (fV xs i).f0)∧w.cell? ⟨(ad.add (i.toNat*12)).block,(ad.add (i.toNat*12)).off+1,none⟩=some (.int .i64 (fV xs i).f1)∧w.cell? ⟨(ad.add (i.toNat*12)).block,(ad.add (i.toNat*12)).off+2,none⟩=some (.slice A2 (fV xs i).f2.length c2)∧w.cell? ⟨(ad.add (i.toNat*12)).block,(ad.add (i.toNat*12)).off+3,none⟩=some (.string (fV xs i).f3)∧w.cell? ⟨(ad.add (i.toNat*12)).block,(ad.add (i.toNat*12)).off+4,none⟩=some (.bool (fV xs i).f4)∧w.cell? ⟨(ad.add (i.toNat*12)).block,(ad.add (i.toNat*12)).off+5,none⟩=some (.bool (fV xs i).f5)∧w.cell? ⟨(ad.add (i.toNat*12)).block,(ad.add (i.toNat*12)).off+6,none⟩=some (.int .i64 (fV xs i).f6)∧w.cell? ⟨(ad.add (i.toNat*12)).block,(ad.add (i.toNat*12)).off+7,none⟩=some (.slice A7 (fV xs i).f7.length c7)∧w.cell? ⟨(ad.add (i.toNat*12)).block,(ad.add (i.toNat*12)).off+8,none⟩=some (.string (fV xs i).f8)∧w.cell? ⟨(ad.add (i.toNat*12)).block,(ad.add (i.toNat*12)).off+9,none⟩=some (.bool (fV xs i).f9)∧w.cell? ⟨(ad.add (i.toNat*12)).block,(ad.add (i.toNat*12)).off+10,none⟩=some (.int .i64 (fV xs i).f10.f0)∧w.cell? ⟨(ad.add (i.toNat*12)).block,(ad.add (i.toNat*12)).off+11,none⟩=some (.int .i64 (fV xs i).f10.f1)∧(fV xs i).f2.length≤c2∧iH.C w A2 (fV xs i).f2.length (fV xs i).f2∧(fV xs i).f7.length≤c7∧iH.C w A7 (fV xs i).f7.length (fV xs i).f7:=by
 obtain⟨ad,c,e,_,hK,hc0⟩:=Kd.C_get h z39 i h0 h1
 have hc:∀j u,c[j]?=some u→w.cell? (ad.add (i.toNat*12+j))=some u:=hc0
 obtain⟨A2,c2,A7,c7,rfl,l2,g2,l7,g7⟩:=MV hK
 exact⟨ad,A2,c2,A7,c7,e,hc 0 _ rfl,by rw[←iV _ _ 1 (by omega)];exact hc 1 _ rfl,by rw[←iV _ _ 2 (by omega)];exact hc 2 _ rfl,by rw[←iV _ _ 3 (by omega)];exact hc 3 _ rfl,by rw[←iV _ _ 4 (by omega)];exact hc 4 _ rfl,by rw[←iV _ _ 5 (by omega)];exact hc 5 _ rfl,by rw[←iV _ _ 6 (by omega)];exact hc 6 _ rfl,by rw[←iV _ _ 7 (by omega)];exact hc 7 _ rfl,by rw[←iV _ _ 8 (by omega)];exact hc 8 _ rfl,by rw[←iV _ _ 9 (by omega)];exact hc 9 _ rfl,by rw[←iV _ _ 10 (by omega)];exact hc 10 _ rfl,by rw[←iV _ _ 11 (by omega)];exact hc 11 _ rfl,l2,g2,l7,g7⟩
structure jS where
 f0:Int
 f1:Bool
 f2:Int
 f3:ByteArray
def z42:jS:=⟨(0:Int),false,(0:Int),(⟨#[]⟩:ByteArray)⟩
def R4:Kd jS:=Kd.iso (Kd.pair (Kd.int .i64) (Kd.pair Kd.bool (Kd.pair (Kd.int .i64) Kd.string))) (fun x:jS=>(x.f0,x.f1,x.f2,x.f3))
theorem FM{w:World}{x:jS}{cs:List Value}(h:R4.K w x cs):cs=[.int .i64 x.f0,.bool x.f1,.int .i64 x.f2,.string x.f3]:=by
 obtain⟨_,_,rfl,rfl,⟨_,_,rfl,rfl,⟨_,_,rfl,rfl,rfl⟩⟩⟩:=h
 exact rfl
theorem YV(w:World)(x:jS):R4.K w x [.int .i64 x.f0,.bool x.f1,.int .i64 x.f2,.string x.f3]:=⟨[.int .i64 x.f0],[.bool x.f1,.int .i64 x.f2,.string x.f3],rfl,rfl,⟨[.bool x.f1],[.int .i64 x.f2,.string x.f3],rfl,rfl,⟨[.int .i64 x.f2],[.string x.f3],rfl,rfl,rfl⟩⟩⟩
def fZ(xs:List jS)(i:Int):jS:=xs.getD i.toNat z42
theorem YW{w:World}{A:Option Addr}{n:Nat}{xs:List jS}(h:Kd.C R4 w A n xs)(i:Int)(h0:0≤i)(h1:i<n):∃ad,A=some ad∧w.cell? (ad.add (i.toNat*4))=some (.int .i64 (fZ xs i).f0)∧w.cell? ⟨(ad.add (i.toNat*4)).block,(ad.add (i.toNat*4)).off+1,none⟩=some (.bool (fZ xs i).f1)∧w.cell? ⟨(ad.add (i.toNat*4)).block,(ad.add (i.toNat*4)).off+2,none⟩=some (.int .i64 (fZ xs i).f2)∧w.cell? ⟨(ad.add (i.toNat*4)).block,(ad.add (i.toNat*4)).off+3,none⟩=some (.string (fZ xs i).f3):=by
 obtain⟨ad,c,e,_,hK,hc0⟩:=Kd.C_get h z42 i h0 h1
 have hc:∀j u,c[j]?=some u→w.cell? (ad.add (i.toNat*4+j))=some u:=hc0
 obtain rfl:=FM hK
 exact⟨ad,e,hc 0 _ rfl,by rw[←iV _ _ 1 (by omega)];exact hc 1 _ rfl,by rw[←iV _ _ 2 (by omega)];exact hc 2 _ rfl,by rw[←iV _ _ 3 (by omega)];exact hc 3 _ rfl⟩
theorem kz{w W:World}(h:Kept w W (fun _=>False):=by repeat(first|(with_reducible first|exact HK.out|apply Kept.alloc|apply Kept.drewN|apply Kept.drew|refine Kept.setCell ?_ (.inr (ah.out (by assumption))) _)|exact HK.out)):Kept w W (fun _=>False):=h
theorem kq{w W W2:World}(hb:Below W.heap.size W W2)(h:Kept w W (fun _=>False):=by repeat(first|(with_reducible first|exact HK.out|apply Kept.alloc|apply Kept.drewN|apply Kept.drew|refine Kept.setCell ?_ (.inr (ah.out (by assumption))) _)|exact HK.out)):ah (Kept w W2 (fun _=>False)):=⟨Kept.below h hb⟩
def cK.f(a0:Int)(a1:Int)(a2:Int):Option (Bool):=if a0≥a1 then(some (decide (a0≤a2)))else(some false)
theorem cK.calls(a0:Int)(a1:Int)(a2:Int)(r:Bool)(w:World)(h:cK.f a0 a1 a2=some r):
 Calls Tryz.prog 44 #[.int .i64 a0,.int .i64 a1,.int .i64 a2] w fun e w'=>e= .returned (.bool r)∧aT w w':=by
 have H:(if a0≥a1 then(some (decide (a0≤a2)))else(some false))=some r:=h
 clear h
 replace H:=sp H
 rcases H with⟨c4,H⟩|⟨c4,H⟩
 ·skip
  have c4b0:=decide_eq_true c4
  clear c4
  obtain rfl:=Option.some.inj H
  go_enter Tryz.func44,Tryz.ntmps44
  go_wp2
  go_ret
  exact⟨zs,by repeat(first|exact aT.refl _|apply aT.step)⟩
 ·skip
  have c4b0:=decide_eq_false c4
  clear c4
  obtain rfl:=Option.some.inj H
  go_enter Tryz.func44,Tryz.ntmps44
  go_wp2
  go_ret
  exact⟨zs,by repeat(first|exact aT.refl _|apply aT.step)⟩
def kR.f(aY:Int)(aA:Int):Option (Bool):=(cK.f aY 0 31).bind fun YX=>(if YX=true then((cK.f aA 0 31).bind fun YZ=>(some YZ))else(some false))
theorem kR.calls(aY:Int)(aA:Int)(r:Bool)(w:World)(h:kR.f aY aA=some r):
 Calls Tryz.prog 31 #[.agg #[.int .i64 aY,.int .i64 aA]] w fun e w'=>e= .returned (.bool r)∧Below w.heap.size w w':=by
 have a4t:=Tryz.underlying28
 have HB:=ah.mk (Below.refl w.heap.size w)
 have H:((cK.f aY 0 31).bind fun YX=>(if YX=true then((cK.f aA 0 31).bind fun YZ=>(some YZ))else(some false)))=some r:=h
 clear h
 obtain⟨YX,A2,H⟩:=ob H
 (try dsimp only at H)
 by_cases c3:YX=true
 ·subst c3
  rw[if_pos rfl]at H
  obtain⟨YZ,A4,H⟩:=ob H
  (try dsimp only at H)
  obtain rfl:=Option.some.inj H
  go_enter Tryz.func31,Tryz.ntmps31
  go_wp2_with (first|((with_reducible refine gd 1 rfl ?_);refine bx (N:=1) (cs:=#[.int .i64 aY,.int .i64 aA]) (t:=28) ?_;intro akt hg w5 hbox hb;have Z0:=ah.mk (hbox);have Z4:=gw HB hg;have aku:=Z4;replace HB:=ah.mk (ai (zb HB) hb);clear hb hbox hg;obtain⟨FN,FO,R5,FP⟩:=c2 Z0)|((with_reducible refine gq 44 rfl ?_);refine gl (some 5) Tryz.func44 #[.int .i64 aY,.int .i64 0,.int .i64 31] ?_;(with_reducible refine(cK.calls aY 0 31 true _ A2.out).mono ?_);rintro e w' ⟨rfl,⟨nd,rfl⟩⟩;refine⟨_,rfl,?_⟩)|(go_at_call 44;(with_reducible refine(cK.calls aA 0 31 YZ _ A4.out).mono ?_);rintro e w' ⟨rfl,⟨nd,rfl⟩⟩))
  go_ret
  exact⟨ze,zb HB⟩
 ·replace c3:=Bool.eq_false_iff.mpr c3
  subst c3
  rw[if_neg (show ¬(false=true) by decide)]at H
  obtain rfl:=Option.some.inj H
  go_enter Tryz.func31,Tryz.ntmps31
  go_wp2_with (first|((with_reducible refine gd 1 rfl ?_);refine bx (N:=1) (cs:=#[.int .i64 aY,.int .i64 aA]) (t:=28) ?_;intro akt hg w7 hbox hb;have Z0:=ah.mk (hbox);have Z4:=gw HB hg;have aku:=Z4;replace HB:=ah.mk (ai (zb HB) hb);clear hb hbox hg;obtain⟨BK,BL,BM,BN⟩:=c2 Z0)|((with_reducible refine gq 44 rfl ?_);refine gl (some 5) Tryz.func44 #[.int .i64 aY,.int .i64 0,.int .i64 31] ?_;(with_reducible refine(cK.calls aY 0 31 false _ A2.out).mono ?_);rintro e w' ⟨rfl,⟨nd,rfl⟩⟩;refine⟨_,rfl,?_⟩))
  go_ret
  exact⟨ze,zb HB⟩
def cO.f(a0:Int):Option (Bool):=(cK.f a0 1 7).bind fun Z5=>(if Z5=true then(some ((Int.tmod a0 2)==1))else(some false))
theorem cO.calls(a0:Int)(r:Bool)(w:World)(h:cO.f a0=some r):
 Calls Tryz.prog 53 #[.int .i64 a0] w fun e w'=>e= .returned (.bool r)∧aT w w':=by
 have H:((cK.f a0 1 7).bind fun Z5=>(if Z5=true then(some ((Int.tmod a0 2)==1))else(some false)))=some r:=h
 clear h
 obtain⟨Z5,A2,H⟩:=ob H
 (try dsimp only at H)
 by_cases c3:Z5=true
 ·subst c3
  rw[if_pos rfl]at H
  obtain rfl:=Option.some.inj H
  go_enter Tryz.func53,Tryz.ntmps53
  go_wp2_with (first|((with_reducible refine gq 44 rfl ?_);refine gl (some 4) Tryz.func44 #[.int .i64 a0,.int .i64 1,.int .i64 7] ?_;(with_reducible refine(cK.calls a0 1 7 true _ A2.out).mono ?_);rintro e w' ⟨rfl,⟨nd,rfl⟩⟩;refine⟨_,rfl,?_⟩))
  go_ret
  exact⟨zs,by repeat(first|exact aT.refl _|apply aT.step)⟩
 ·replace c3:=Bool.eq_false_iff.mpr c3
  subst c3
  rw[if_neg (show ¬(false=true) by decide)]at H
  obtain rfl:=Option.some.inj H
  go_enter Tryz.func53,Tryz.ntmps53
  go_wp2_with (first|((with_reducible refine gq 44 rfl ?_);refine gl (some 4) Tryz.func44 #[.int .i64 a0,.int .i64 1,.int .i64 7] ?_;(with_reducible refine(cK.calls a0 1 7 false _ A2.out).mono ?_);rintro e w' ⟨rfl,⟨nd,rfl⟩⟩;refine⟨_,rfl,?_⟩))
  go_ret
  exact⟨zs,by repeat(first|exact aT.refl _|apply aT.step)⟩
def dz.l0:Nat→Int→Int→Option (Int)
 |0,_,_=>none
 |k+1,x0,x3=>if x3<39 then(if 0≤x3 then(if(bt (⟨#[101,116,97,111,105,110,115,114,104,108,48,49,50,51,52,53,54,55,56,57,100,99,117,109,102,112,103,119,121,98,118,107,120,106,113,122,58,47,45]⟩:ByteArray) x3)=x0 then(some x3)else(dz.l0 k x0 (wrap64 (x3+1))))else(none))else(some (-1))
def dz.f(k:Nat)(a0:Int):Option (Int):=dz.l0 k a0 0
theorem dz.mono_l:∀k,(∀y0 y1,gM (dz.l0 k y0 y1) (dz.l0 (k+1) y0 y1))
 |0=>fun _ _ r h=>by simp[dz.l0]at h
 |k+1=>by
  have mW:=dz.mono_l k
  ·intro y0 y1
   unfold dz.l0
   exact zm
theorem dz.mono:∀a0 k,gM (dz.f k a0) (dz.f (k+1) a0):=by
 intro a0 k
 have mW:=dz.mono_l k
 unfold dz.f
 exact zm
theorem dz.calls(k:Nat)(a0:Int)(r:Int)(w:World)(h:dz.f k a0=some r):
 Calls Tryz.prog 74 #[.int .u8 a0] w fun e w'=>e= .returned (.int .i64 r)∧aT w w':=by
 have H:(dz.l0 k a0 0)=some r:=h
 clear h
 have H':=ah.mk H
 clear H
 go_enter Tryz.func74,Tryz.ntmps74
 go_wp2
 go_loopg [3] k (fun kq v3 w'=>∃(dh:Int),v3= .int .i64 dh∧ah (dz.l0 kq a0 dh=some r)∧ah (kq≤k)∧aT w w')
 case atStart=>exact⟨(0),zs,H',⟨Nat.le_refl _⟩,by repeat(first|exact aT.refl _|apply aT.step)⟩
 case round=>
  clear H'
  obtain⟨dh,rfl,HA,jd,⟨m1,rfl⟩⟩:=hrel
  cases gk with
  |zero=>exact absurd HA.out (by simp[dz.l0])
  |succ k1=>
   have H:=HA.out
   clear HA
   simp only[dz.l0]at H
   replace H:=sp H
   rcases H with⟨c2,H⟩|⟨c2,H⟩
   ·skip
    have c2b0:=decide_eq_true c2
    clear c2
    by_cases c3:0≤dh
    ·rw[if_pos c3]at H
     have c3b0:=decide_eq_true c3
     clear c3
     by_cases c5:(bt (⟨#[101,116,97,111,105,110,115,114,104,108,48,49,50,51,52,53,54,55,56,57,100,99,117,109,102,112,103,119,121,98,118,107,120,106,113,122,58,47,45]⟩:ByteArray) dh)=a0
     ·rw[if_pos c5]at H
      have c5b0:((bt (⟨#[101,116,97,111,105,110,115,114,104,108,48,49,50,51,52,53,54,55,56,57,100,99,117,109,102,112,103,119,121,98,118,107,120,106,113,122,58,47,45]⟩:ByteArray) dh)==a0)=true:=beq_iff_eq.mpr c5
      have c5b1:((bt (⟨#[101,116,97,111,105,110,115,114,104,108,48,49,50,51,52,53,54,55,56,57,100,99,117,109,102,112,103,119,121,98,118,107,120,106,113,122,58,47,45]⟩:ByteArray) dh) != a0)=false:=bne_eq_false_iff_eq.mpr c5
      clear c5
      obtain rfl:=Option.some.inj H
      have p4:0≤(dh:Int):=of_decide_eq_true za
      have q4:dh<(39:Int):=of_decide_eq_true za
      have hx4:=fF (⟨#[101,116,97,111,105,110,115,114,104,108,48,49,50,51,52,53,54,55,56,57,100,99,117,109,102,112,103,119,121,98,118,107,120,106,113,122,58,47,45]⟩:ByteArray) dh
      replace p4:=eq_true p4
      replace q4:=eq_true q4
      go_wp2
      go_ret
      exact⟨zs,by repeat(first|exact aT.refl _|apply aT.step)⟩
     ·rw[if_neg c5]at H
      have c5b0:((bt (⟨#[101,116,97,111,105,110,115,114,104,108,48,49,50,51,52,53,54,55,56,57,100,99,117,109,102,112,103,119,121,98,118,107,120,106,113,122,58,47,45]⟩:ByteArray) dh)==a0)=false:=beq_eq_false_iff_ne.mpr c5
      have c5b1:((bt (⟨#[101,116,97,111,105,110,115,114,104,108,48,49,50,51,52,53,54,55,56,57,100,99,117,109,102,112,103,119,121,98,118,107,120,106,113,122,58,47,45]⟩:ByteArray) dh) != a0)=true:=bne_iff_ne.mpr c5
      have H':=ah.mk H
      clear H
      have p4:0≤(dh:Int):=of_decide_eq_true za
      have q4:dh<(39:Int):=of_decide_eq_true za
      have hx4:=fF (⟨#[101,116,97,111,105,110,115,114,104,108,48,49,50,51,52,53,54,55,56,57,100,99,117,109,102,112,103,119,121,98,118,107,120,106,113,122,58,47,45]⟩:ByteArray) dh
      replace p4:=eq_true p4
      replace q4:=eq_true q4
      go_wp2
      go_roundg k1
      case measure=>have:=jd.out;omega
      case rel=>exact⟨(wrap64 (dh+1)),zs,H',⟨by have:=jd.out;omega⟩,by repeat(first|exact aT.refl _|apply aT.step)⟩
    ·rw[if_neg c3]at H
     exact absurd H (by simp)
   ·skip
    have c2b0:=decide_eq_false c2
    clear c2
    obtain rfl:=Option.some.inj H
    go_wp2
    go_ret
    exact⟨zs,by repeat(first|exact aT.refl _|apply aT.step)⟩
def aZ.l0:Nat→ByteArray→Int→Option (Bool)
 |0,_,_=>none
 |k+1,x0,x3=>if x3<(x0.size:Int)then(if 0≤x3 then((dz.f k (bt x0 x3)).bind fun t105=>(if t105<0 then(some false)else(aZ.l0 k x0 (wrap64 (x3+1)))))else(none))else(some (decide ((x0.size:Int)≤16)))
def aZ.f(k:Nat)(a0:ByteArray):Option (Bool):=aZ.l0 k a0 0
theorem aZ.mono_l:∀k,(∀y0 y1,gM (aZ.l0 k y0 y1) (aZ.l0 (k+1) y0 y1))
 |0=>fun _ _ r h=>by simp[aZ.l0]at h
 |k+1=>by
  have mW:=aZ.mono_l k
  ·intro y0 y1
   unfold aZ.l0
   have m0:=@dz.mono
   exact zm
theorem aZ.mono:∀a0 k,gM (aZ.f k a0) (aZ.f (k+1) a0):=by
 intro a0 k
 have mW:=aZ.mono_l k
 unfold aZ.f
 have m0:=@dz.mono
 exact zm
theorem aZ.calls(k:Nat)(a0:ByteArray)(r:Bool)(w:World)(h:aZ.f k a0=some r):
 Calls Tryz.prog 55 #[.string a0] w fun e w'=>e= .returned (.bool r)∧aT w w':=by
 have H:(aZ.l0 k a0 0)=some r:=h
 clear h
 have H':=ah.mk H
 clear H
 go_enter Tryz.func55,Tryz.ntmps55
 go_wp2
 go_loopg [3] k (fun kq v3 w'=>∃(dh:Int),v3= .int .i64 dh∧ah (aZ.l0 kq a0 dh=some r)∧ah (kq≤k)∧aT w w')
 case atStart=>exact⟨(0),zs,H',⟨Nat.le_refl _⟩,by repeat(first|exact aT.refl _|apply aT.step)⟩
 case round=>
  clear H'
  obtain⟨dh,rfl,HA,jd,⟨m1,rfl⟩⟩:=hrel
  cases gk with
  |zero=>exact absurd HA.out (by simp[aZ.l0])
  |succ k1=>
   have H:=HA.out
   clear HA
   simp only[aZ.l0]at H
   replace H:=sp H
   rcases H with⟨c2,H⟩|⟨c2,H⟩
   ·skip
    have c2b0:=decide_eq_true c2
    clear c2
    by_cases c3:0≤dh
    ·rw[if_pos c3]at H
     have c3b0:=decide_eq_true c3
     clear c3
     obtain⟨t105,A5,H⟩:=ob H
     (try dsimp only at H)
     by_cases c6:t105<0
     ·rw[if_pos c6]at H
      have c6b0:=decide_eq_true c6
      clear c6
      obtain rfl:=Option.some.inj H
      have p4:0≤(dh:Int):=of_decide_eq_true za
      have q4:dh<(a0.size:Int):=of_decide_eq_true za
      have hx4:=fF a0 dh
      replace p4:=eq_true p4
      replace q4:=eq_true q4
      go_wp2_with (first|((with_reducible refine gq 74 rfl ?_);refine gl (some 13) Tryz.func74 #[.int .u8 (bt a0 dh)] ?_;(with_reducible refine(dz.calls k1 (bt a0 dh) t105 _ A5.out).mono ?_);rintro e w' ⟨rfl,⟨nd,rfl⟩⟩;refine⟨_,rfl,?_⟩))
      go_ret
      exact⟨zs,by repeat(first|exact aT.refl _|apply aT.step)⟩
     ·rw[if_neg c6]at H
      have c6b0:=decide_eq_false c6
      clear c6
      have H':=ah.mk H
      clear H
      have p4:0≤(dh:Int):=of_decide_eq_true za
      have q4:dh<(a0.size:Int):=of_decide_eq_true za
      have hx4:=fF a0 dh
      replace p4:=eq_true p4
      replace q4:=eq_true q4
      go_wp2_with (first|((with_reducible refine gq 74 rfl ?_);refine gl (some 13) Tryz.func74 #[.int .u8 (bt a0 dh)] ?_;(with_reducible refine(dz.calls k1 (bt a0 dh) t105 _ A5.out).mono ?_);rintro e w' ⟨rfl,⟨nd,rfl⟩⟩;refine⟨_,rfl,?_⟩))
      go_roundg k1
      case measure=>have:=jd.out;omega
      case rel=>exact⟨(wrap64 (dh+1)),zs,H',⟨by have:=jd.out;omega⟩,by repeat(first|exact aT.refl _|apply aT.step)⟩
    ·rw[if_neg c3]at H
     exact absurd H (by simp)
   ·skip
    have c2b0:=decide_eq_false c2
    clear c2
    obtain rfl:=Option.some.inj H
    go_wp2
    go_ret
    exact⟨zs,by repeat(first|exact aT.refl _|apply aT.step)⟩
def eH.f(k:Nat)(aY:ByteArray)(aA:ByteArray)(dP:Bool):Option (Bool):=(aZ.f k aY).bind fun t107=>(if t107=true then(if aY.toList=([]:List UInt8)then(some false)else((aZ.f k aA).bind fun Z6=>(some Z6)))else(some false))
theorem eH.mono:∀a0 a1 a2 k,gM (eH.f k a0 a1 a2) (eH.f (k+1) a0 a1 a2):=by
 intro a0 a1 a2 k
 unfold eH.f
 have m0:=@aZ.mono
 exact zm
theorem eH.calls(k:Nat)(aY:ByteArray)(aA:ByteArray)(dP:Bool)(r:Bool)(w:World)(h:eH.f k aY aA dP=some r):
 Calls Tryz.prog 56 #[.agg #[.string aY,.string aA,.bool dP]] w fun e w'=>e= .returned (.bool r)∧Below w.heap.size w w':=by
 have sN:=Tryz.underlying89
 have HB:=ah.mk (Below.refl w.heap.size w)
 have H:((aZ.f k aY).bind fun t107=>(if t107=true then(if aY.toList=([]:List UInt8)then(some false)else((aZ.f k aA).bind fun Z6=>(some Z6)))else(some false)))=some r:=h
 clear h
 obtain⟨t107,A2,H⟩:=ob H
 (try dsimp only at H)
 by_cases c3:t107=true
 ·subst c3
  rw[if_pos rfl]at H
  replace H:=sp H
  rcases H with⟨c4,H⟩|⟨c4,H⟩
  ·skip
   have c4b0:(aY.toList==([]:List UInt8))=true:=beq_iff_eq.mpr c4
   have c4b1:(aY.toList != ([]:List UInt8))=false:=bne_eq_false_iff_eq.mpr c4
   clear c4
   obtain rfl:=Option.some.inj H
   go_enter Tryz.func56,Tryz.ntmps56
   go_wp2_with (first|((with_reducible refine gd 1 rfl ?_);refine bx (N:=1) (cs:=#[.string aY,.string aA,.bool dP]) (t:=89) ?_;intro abI hg w5 hbox hb;have MW:=ah.mk (hbox);have MX:=gw HB hg;have abJ:=MX;replace HB:=ah.mk (ai (zb HB) hb);clear hb hbox hg;obtain⟨FN,FO,aem,R5,FP,aen⟩:=c3 MW)|((with_reducible refine gq 55 rfl ?_);refine gl (some 5) Tryz.func55 #[.string aY] ?_;(with_reducible refine(aZ.calls k aY true _ A2.out).mono ?_);rintro e w' ⟨rfl,⟨nd,rfl⟩⟩;refine⟨_,rfl,?_⟩))
   go_ret
   exact⟨ze,zb HB⟩
  ·skip
   have c4b0:(aY.toList==([]:List UInt8))=false:=beq_eq_false_iff_ne.mpr c4
   have c4b1:(aY.toList != ([]:List UInt8))=true:=bne_iff_ne.mpr c4
   obtain⟨Z6,A7,H⟩:=ob H
   (try dsimp only at H)
   obtain rfl:=Option.some.inj H
   go_enter Tryz.func56,Tryz.ntmps56
   go_wp2_with (first|((with_reducible refine gd 1 rfl ?_);refine bx (N:=1) (cs:=#[.string aY,.string aA,.bool dP]) (t:=89) ?_;intro abI hg w8 hbox hb;have MW:=ah.mk (hbox);have MX:=gw HB hg;have abJ:=MX;replace HB:=ah.mk (ai (zb HB) hb);clear hb hbox hg;obtain⟨yM,yN,BO,yO,yP,BP⟩:=c3 MW)|((with_reducible refine gq 55 rfl ?_);refine gl (some 5) Tryz.func55 #[.string aY] ?_;(with_reducible refine(aZ.calls k aY true _ A2.out).mono ?_);rintro e w' ⟨rfl,⟨nd,rfl⟩⟩;refine⟨_,rfl,?_⟩)|(go_at_call 55;(with_reducible refine(aZ.calls k aA Z6 _ A7.out).mono ?_);rintro e w' ⟨rfl,⟨nd,rfl⟩⟩))
   go_ret
   exact⟨ze,zb HB⟩
 ·replace c3:=Bool.eq_false_iff.mpr c3
  subst c3
  rw[if_neg (show ¬(false=true) by decide)]at H
  obtain rfl:=Option.some.inj H
  go_enter Tryz.func56,Tryz.ntmps56
  go_wp2_with (first|((with_reducible refine gd 1 rfl ?_);refine bx (N:=1) (cs:=#[.string aY,.string aA,.bool dP]) (t:=89) ?_;intro abI hg w10 hbox hb;have MW:=ah.mk (hbox);have MX:=gw HB hg;have abJ:=MX;replace HB:=ah.mk (ai (zb HB) hb);clear hb hbox hg;obtain⟨TL,TM,a4u,TN,TP,a4v⟩:=c3 MW)|((with_reducible refine gq 55 rfl ?_);refine gl (some 5) Tryz.func55 #[.string aY] ?_;(with_reducible refine(aZ.calls k aY false _ A2.out).mono ?_);rintro e w' ⟨rfl,⟨nd,rfl⟩⟩;refine⟨_,rfl,?_⟩))
  go_ret
  exact⟨ze,zb HB⟩
def bg.l0:Nat→List (bf)→Int→Option (Bool)
 |0,_,_=>none
 |k+1,x0,x3=>if x3<(x0.length:Int)then(if 0≤x3 then((eH.f k ((aU x0 x3).f0) ((aU x0 x3).f1) ((aU x0 x3).f2)).bind fun a4w=>(if a4w=true then(bg.l0 k x0 (wrap64 (x3+1)))else(some false)))else(none))else(some (decide ((x0.length:Int)≤6)))
def bg.f(k:Nat)(l0:List (bf)):Option (Bool):=bg.l0 k l0 0
theorem bg.mono_l:∀k,(∀y0 y1,gM (bg.l0 k y0 y1) (bg.l0 (k+1) y0 y1))
 |0=>fun _ _ r h=>by simp[bg.l0]at h
 |k+1=>by
  have mW:=bg.mono_l k
  ·intro y0 y1
   unfold bg.l0
   have m0:=@eH.mono
   exact zm
theorem bg.mono:∀a0 k,gM (bg.f k a0) (bg.f (k+1) a0):=by
 intro a0 k
 have mW:=bg.mono_l k
 unfold bg.f
 have m0:=@eH.mono
 exact zm
theorem bg.calls(k:Nat)(A0:Option Addr)(c0:Nat)(l0:List (bf))(r:Bool)(w:World)(hr0:Kd.C iH w A0 l0.length l0)(hc0:l0.length≤c0)(h:bg.f k l0=some r):
 Calls Tryz.prog 54 #[.slice A0 l0.length c0] w fun e w'=>e= .returned (.bool r)∧Below w.heap.size w w':=by
 have sN:=Tryz.underlying89
 have En:=ah.mk hr0
 have Z7:=ah.mk hc0
 clear hr0 hc0
 have HB:=ah.mk (Below.refl w.heap.size w)
 have H:(bg.l0 k l0 0)=some r:=h
 clear h
 have H':=ah.mk H
 clear H
 go_enter Tryz.func54,Tryz.ntmps54
 go_wp2
 go_loopg [3] k (fun kq v3 w'=>∃(dh:Int),v3= .int .i64 dh∧ah (bg.l0 kq l0 dh=some r)∧ah (kq≤k)∧ah (Below w.heap.size w w'))
 case atStart=>exact⟨(0),zs,H',⟨Nat.le_refl _⟩,⟨zb HB⟩⟩
 case round=>
  clear H'
  obtain⟨dh,rfl,HA,jd,HB⟩:=hrel
  cases gk with
  |zero=>exact absurd HA.out (by simp[bg.l0])
  |succ k1=>
   have H:=HA.out
   clear HA
   simp only[bg.l0]at H
   replace H:=sp H
   rcases H with⟨c2,H⟩|⟨c2,H⟩
   ·skip
    have c2b0:=decide_eq_true c2
    clear c2
    by_cases c3:0≤dh
    ·rw[if_pos c3]at H
     have c3b0:=decide_eq_true c3
     clear c3
     obtain⟨a4w,A4,H⟩:=ob H
     (try dsimp only at H)
     have Z8:=ah.mk H
     clear H
     have aeo:0≤(dh:Int):=of_decide_eq_true za
     have aep:dh<(l0.length:Int):=of_decide_eq_true za
     obtain⟨aLz,e109,TQ,TR,TT⟩:=eT En.out dh aeo aep
     cases e109
     replace TQ:=pX TQ HB
     replace TR:=pX TR HB
     replace TT:=pX TT HB
     replace aeo:=eq_true aeo
     replace aep:=eq_true aep
     go_upto_if 15 with(first|((with_reducible refine gq 56 rfl ?_);refine gl (some 14) Tryz.func56 #[.agg #[.string ((aU l0 dh).f0),.string ((aU l0 dh).f1),.bool ((aU l0 dh).f2)]] ?_;(with_reducible refine(eH.calls k1 ((aU l0 dh).f0) ((aU l0 dh).f1) ((aU l0 dh).f2) a4w _ A4.out).mono ?_);rintro e w6 ⟨rfl,hb⟩;refine⟨_,rfl,?_⟩;replace HB:=ah.mk (ai (zb HB) hb);(try clear hb)))
     (try simp only[Act.put,s1,s2,s3])
     have H:=Z8.out
     clear Z8
     by_cases c7:a4w=true
     ·subst c7
      rw[if_pos rfl]at H
      have H':=ah.mk H
      clear H
      go_wp2
      go_roundg k1
      case measure=>have:=jd.out;omega
      case rel=>exact⟨(wrap64 (dh+1)),zs,H',⟨by have:=jd.out;omega⟩,⟨zb HB⟩⟩
     ·replace c7:=Bool.eq_false_iff.mpr c7
      subst c7
      rw[if_neg (show ¬(false=true) by decide)]at H
      obtain rfl:=Option.some.inj H
      go_wp2
      go_ret
      exact⟨ze,zb HB⟩
    ·rw[if_neg c3]at H
     exact absurd H (by simp)
   ·skip
    have c2b0:=decide_eq_false c2
    clear c2
    obtain rfl:=Option.some.inj H
    go_wp2
    go_ret
    exact⟨ze,zb HB⟩
def iP.f(k:Nat)(aY:Int)(aA:Int)(jB:List (bf))(cZ:ByteArray)(lT:Bool)(lU:Bool)(lZ:Int)(je:List (bf))(jo:ByteArray)(nI:Bool)(gW:Int)(jf:Int):Option (Bool):=(cO.f aY).bind fun Z9=>(if Z9=true then((cK.f aA 1 3).bind fun Za=>(if Za=true then((bg.f k jB).bind fun Zb=>(if Zb=true then((bg.f k je).bind fun Zc=>(if Zc=true then((aZ.f k cZ).bind fun t116=>(if t116=true then((aZ.f k jo).bind fun t117=>(if t117=true then((cK.f lZ 0 (cZ.size:Int)).bind fun Zd=>(if Zd=true then((kR.f gW jf).bind fun t119=>(some t119))else(some false)))else(some false)))else(some false)))else(some false)))else(some false)))else(some false)))else(some false))
theorem iP.mono:∀a0 a1 a2 a3 a4 a5 a6 a7 a8 a9 MZ R6 k,gM (iP.f k a0 a1 a2 a3 a4 a5 a6 a7 a8 a9 MZ R6) (iP.f (k+1) a0 a1 a2 a3 a4 a5 a6 a7 a8 a9 MZ R6):=by
 intro a0 a1 a2 a3 a4 a5 a6 a7 a8 a9 MZ R6 k
 unfold iP.f
 have m0:=@bg.mono
 have m1:=@aZ.mono
 exact zm
theorem iP.calls(k:Nat)(aY:Int)(aA:Int)(ql:Option Addr)(qm:Nat)(jB:List (bf))(cZ:ByteArray)(lT:Bool)(lU:Bool)(lZ:Int)(tK:Option Addr)(tL:Nat)(je:List (bf))(jo:ByteArray)(nI:Bool)(gW:Int)(jf:Int)(r:Bool)(w:World)(Dk:Kd.C iH w ql jB.length jB)(Dl:jB.length≤qm)(N7:Kd.C iH w tK je.length je)(N8:je.length≤tL)(h:iP.f k aY aA jB cZ lT lU lZ je jo nI gW jf=some r):
 Calls Tryz.prog 28 #[.agg #[.int .i64 aY,.int .i64 aA,.slice ql jB.length qm,.string cZ,.bool lT,.bool lU,.int .i64 lZ,.slice tK je.length tL,.string jo,.bool nI,.int .i64 gW,.int .i64 jf]] w fun e w'=>e= .returned (.bool r)∧Below w.heap.size w w':=by
 have aer:=Tryz.underlying39
 have a4t:=Tryz.underlying28
 have rP:=ah.mk Dk
 have rQ:=ah.mk Dl
 clear Dk Dl
 have vW:=ah.mk N7
 have vX:=ah.mk N8
 clear N7 N8
 have HB:=ah.mk (Below.refl w.heap.size w)
 have H:((cO.f aY).bind fun Z9=>(if Z9=true then((cK.f aA 1 3).bind fun Za=>(if Za=true then((bg.f k jB).bind fun Zb=>(if Zb=true then((bg.f k je).bind fun Zc=>(if Zc=true then((aZ.f k cZ).bind fun t116=>(if t116=true then((aZ.f k jo).bind fun t117=>(if t117=true then((cK.f lZ 0 (cZ.size:Int)).bind fun Zd=>(if Zd=true then((kR.f gW jf).bind fun t119=>(some t119))else(some false)))else(some false)))else(some false)))else(some false)))else(some false)))else(some false)))else(some false)))=some r:=h
 clear h
 obtain⟨Z9,A2,H⟩:=ob H
 (try dsimp only at H)
 by_cases c3:Z9=true
 ·subst c3
  rw[if_pos rfl]at H
  obtain⟨Za,A4,H⟩:=ob H
  (try dsimp only at H)
  by_cases c5:Za=true
  ·subst c5
   rw[if_pos rfl]at H
   obtain⟨Zb,A6,H⟩:=ob H
   (try dsimp only at H)
   by_cases c7:Zb=true
   ·subst c7
    rw[if_pos rfl]at H
    obtain⟨Zc,A8,H⟩:=ob H
    (try dsimp only at H)
    by_cases c9:Zc=true
    ·subst c9
     rw[if_pos rfl]at H
     obtain⟨t116,Qx,H⟩:=ob H
     (try dsimp only at H)
     by_cases c11:t116=true
     ·subst c11
      rw[if_pos rfl]at H
      obtain⟨t117,Xo,H⟩:=ob H
      (try dsimp only at H)
      by_cases c13:t117=true
      ·subst c13
       rw[if_pos rfl]at H
       obtain⟨Zd,A14,H⟩:=ob H
       (try dsimp only at H)
       by_cases c15:Zd=true
       ·subst c15
        rw[if_pos rfl]at H
        obtain⟨t119,A16,H⟩:=ob H
        (try dsimp only at H)
        obtain rfl:=Option.some.inj H
        go_enter Tryz.func28,Tryz.ntmps28
        go_wp2_with (first|((with_reducible refine gd 1 rfl ?_);(try(refine ay (by rfl) ?_;dsimp only));refine bx (N:=1) (cs:=#[.int .i64 aY,.int .i64 aA,.slice ql jB.length qm,.string cZ,.bool lT,.bool lU,.int .i64 lZ,.slice tK je.length tL,.string jo,.bool nI,.int .i64 gW,.int .i64 jf]) (t:=39) ?_;intro FQ hg w17 hbox hb;have gN:=ah.mk (hbox);have qJ:=gw HB hg;have FU:=qJ;replace HB:=ah.mk (ai (zb HB) hb);clear hb hbox hg;obtain⟨TU,TY,a4y,a4z,a4A,a4B,a4C,a4D,a4E,a4F,Ze,Zf,U0,U1,a4G,a4H,a4I,a4J,a4K,a4L,a4M,a4N,Zg,Zh⟩:=c12 gN)|((with_reducible refine gq 53 rfl ?_);refine gl (some 5) Tryz.func53 #[.int .i64 aY] ?_;(with_reducible refine(cO.calls aY true _ A2.out).mono ?_);rintro e w' ⟨rfl,⟨nd,rfl⟩⟩;refine⟨_,rfl,?_⟩)|(go_at_call 44;(with_reducible refine(cK.calls aA 1 3 true _ A4.out).mono ?_);rintro e w' ⟨rfl,⟨nd,rfl⟩⟩)|(go_at_call 54;(with_reducible refine(bg.calls k _ _ jB true _ ?aN ?aQ A6.out).mono ?_);(case aN=>exact(Kd.C_below rP.out (zb HB)));(case aQ=>exact rQ.out);rintro e w19 ⟨rfl,hb⟩;replace gN:=kb gN hb;replace HB:=ah.mk (ai (zb HB) hb);(try clear hb);obtain⟨U2,U3,a4O,a4P,a4Q,a4R,a4S,a4T,a4U,a4V,Zi,Zj,U4,U5,a4W,a4X,a4Y,a4Z,a5a,a5b,a5c,a5d,Zk,Zl⟩:=c12 gN)|(go_at_call 54;(with_reducible refine(bg.calls k _ _ je true _ ?aN ?aQ A8.out).mono ?_);(case aN=>exact zc (Kd.C_below vW.out HB.out));(case aQ=>exact vX.out);rintro e w21 ⟨rfl,hb⟩;replace gN:=kb gN hb;replace HB:=ah.mk (ai (zb HB) hb);(try clear hb);obtain⟨U6,U7,a5e,arM,arN,arO,arP,arQ,arR,arS,akw,akx,U8,U9,a5f,arT,arU,arV,arW,arX,arY,arZ,aky,akz⟩:=c12 gN)|(go_at_call 55;(with_reducible refine(aZ.calls k cZ true _ Qx.out).mono ?_);rintro e w' ⟨rfl,⟨nd,rfl⟩⟩)|(go_at_call 55;(with_reducible refine(aZ.calls k jo true _ Xo.out).mono ?_);rintro e w' ⟨rfl,⟨nd,rfl⟩⟩)|(go_at_call 44;(with_reducible refine(cK.calls lZ 0 (cZ.size:Int) true _ A14.out).mono ?_);rintro e w' ⟨rfl,⟨nd,rfl⟩⟩)|(go_at_call 31;(with_reducible refine(kR.calls gW jf t119 _ A16.out).mono ?_);rintro e w23 ⟨rfl,hb⟩;replace gN:=kb gN hb;replace HB:=ah.mk (ai (zb HB) hb);(try clear hb)))
        go_ret
        exact⟨ze,zb HB⟩
       ·replace c15:=Bool.eq_false_iff.mpr c15
        subst c15
        rw[if_neg (show ¬(false=true) by decide)]at H
        obtain rfl:=Option.some.inj H
        go_enter Tryz.func28,Tryz.ntmps28
        go_wp2_with (first|((with_reducible refine gd 1 rfl ?_);(try(refine ay (by rfl) ?_;dsimp only));refine bx (N:=1) (cs:=#[.int .i64 aY,.int .i64 aA,.slice ql jB.length qm,.string cZ,.bool lT,.bool lU,.int .i64 lZ,.slice tK je.length tL,.string jo,.bool nI,.int .i64 gW,.int .i64 jf]) (t:=39) ?_;intro FQ hg w24 hbox hb;have gN:=ah.mk (hbox);have qJ:=gw HB hg;have FU:=qJ;replace HB:=ah.mk (ai (zb HB) hb);clear hb hbox hg;obtain⟨Ua,Ub,Uc,Ud,a5g,a5h,a5i,a5j,a5k,a5l,Zm,Zn,Ue,Uf,Ug,Uh,a5m,a5n,a5o,a5p,a5q,a5r,Zo,Zp⟩:=c12 gN)|((with_reducible refine gq 53 rfl ?_);refine gl (some 5) Tryz.func53 #[.int .i64 aY] ?_;(with_reducible refine(cO.calls aY true _ A2.out).mono ?_);rintro e w' ⟨rfl,⟨nd,rfl⟩⟩;refine⟨_,rfl,?_⟩)|(go_at_call 44;(with_reducible refine(cK.calls aA 1 3 true _ A4.out).mono ?_);rintro e w' ⟨rfl,⟨nd,rfl⟩⟩)|(go_at_call 54;(with_reducible refine(bg.calls k _ _ jB true _ ?aN ?aQ A6.out).mono ?_);(case aN=>exact(Kd.C_below rP.out (zb HB)));(case aQ=>exact rQ.out);rintro e w26 ⟨rfl,hb⟩;replace gN:=kb gN hb;replace HB:=ah.mk (ai (zb HB) hb);(try clear hb);obtain⟨JL,JM,JN,JO,a5s,a5t,a5u,a5v,a5w,a5x,Zq,Zr,JP,JQ,JR,JS,a5y,a5z,a5A,a5B,a5C,a5D,Zt,Zu⟩:=c12 gN)|(go_at_call 54;(with_reducible refine(bg.calls k _ _ je true _ ?aN ?aQ A8.out).mono ?_);(case aN=>exact zc (Kd.C_below vW.out HB.out));(case aQ=>exact vX.out);rintro e Yu ⟨rfl,hb⟩;replace gN:=kb gN hb;replace HB:=ah.mk (ai (zb HB) hb);(try clear hb);obtain⟨JU,JV,JW,Ui,a5E,a5F,a5G,a5H,a5I,a5J,Zv,Zw,JX,JY,JZ,Uj,a5K,a5L,a5M,a5N,a5O,a5P,Zx,Zy⟩:=c12 gN)|(go_at_call 55;(with_reducible refine(aZ.calls k cZ true _ Qx.out).mono ?_);rintro e w' ⟨rfl,⟨nd,rfl⟩⟩)|(go_at_call 55;(with_reducible refine(aZ.calls k jo true _ Xo.out).mono ?_);rintro e w' ⟨rfl,⟨nd,rfl⟩⟩)|(go_at_call 44;(with_reducible refine(cK.calls lZ 0 (cZ.size:Int) false _ A14.out).mono ?_);rintro e w' ⟨rfl,⟨nd,rfl⟩⟩))
        go_ret
        exact⟨ze,zb HB⟩
      ·replace c13:=Bool.eq_false_iff.mpr c13
       subst c13
       rw[if_neg (show ¬(false=true) by decide)]at H
       obtain rfl:=Option.some.inj H
       go_enter Tryz.func28,Tryz.ntmps28
       go_wp2_with (first|((with_reducible refine gd 1 rfl ?_);(try(refine ay (by rfl) ?_;dsimp only));refine bx (N:=1) (cs:=#[.int .i64 aY,.int .i64 aA,.slice ql jB.length qm,.string cZ,.bool lT,.bool lU,.int .i64 lZ,.slice tK je.length tL,.string jo,.bool nI,.int .i64 gW,.int .i64 jf]) (t:=39) ?_;intro FQ hg w30 hbox hb;have gN:=ah.mk (hbox);have qJ:=gw HB hg;have FU:=qJ;replace HB:=ah.mk (ai (zb HB) hb);clear hb hbox hg;obtain⟨Eo,Ep,Er,Uk,a5Q,a5R,a5S,a5T,a5U,a5V,Zz,ZA,Es,Et,Eu,Ul,a5W,a5X,a5Y,a5Z,a6a,a6b,ZB,ZC⟩:=c12 gN)|((with_reducible refine gq 53 rfl ?_);refine gl (some 5) Tryz.func53 #[.int .i64 aY] ?_;(with_reducible refine(cO.calls aY true _ A2.out).mono ?_);rintro e w' ⟨rfl,⟨nd,rfl⟩⟩;refine⟨_,rfl,?_⟩)|(go_at_call 44;(with_reducible refine(cK.calls aA 1 3 true _ A4.out).mono ?_);rintro e w' ⟨rfl,⟨nd,rfl⟩⟩)|(go_at_call 54;(with_reducible refine(bg.calls k _ _ jB true _ ?aN ?aQ A6.out).mono ?_);(case aN=>exact(Kd.C_below rP.out (zb HB)));(case aQ=>exact rQ.out);rintro e w32 ⟨rfl,hb⟩;replace gN:=kb gN hb;replace HB:=ah.mk (ai (zb HB) hb);(try clear hb);obtain⟨zG,zH,zI,K3,a6c,a6d,a6e,a6f,a6g,a6h,ZE,ZF,zJ,zK,zL,K4,a6i,a6j,a6k,a6l,a6m,a6n,ZG,ZH⟩:=c12 gN)|(go_at_call 54;(with_reducible refine(bg.calls k _ _ je true _ ?aN ?aQ A8.out).mono ?_);(case aN=>exact zc (Kd.C_below vW.out HB.out));(case aQ=>exact vX.out);rintro e Mw ⟨rfl,hb⟩;replace gN:=kb gN hb;replace HB:=ah.mk (ai (zb HB) hb);(try clear hb);obtain⟨K5,K6,Um,a6o,a6p,a6q,a6r,a6s,a6t,a6u,ZI,ZJ,K7,K8,Un,a6v,a6w,a6x,a6y,a6z,a6A,a6B,ZK,ZL⟩:=c12 gN)|(go_at_call 55;(with_reducible refine(aZ.calls k cZ true _ Qx.out).mono ?_);rintro e w' ⟨rfl,⟨nd,rfl⟩⟩)|(go_at_call 55;(with_reducible refine(aZ.calls k jo false _ Xo.out).mono ?_);rintro e w' ⟨rfl,⟨nd,rfl⟩⟩))
       go_ret
       exact⟨ze,zb HB⟩
     ·replace c11:=Bool.eq_false_iff.mpr c11
      subst c11
      rw[if_neg (show ¬(false=true) by decide)]at H
      obtain rfl:=Option.some.inj H
      go_enter Tryz.func28,Tryz.ntmps28
      go_wp2_with (first|((with_reducible refine gd 1 rfl ?_);(try(refine ay (by rfl) ?_;dsimp only));refine bx (N:=1) (cs:=#[.int .i64 aY,.int .i64 aA,.slice ql jB.length qm,.string cZ,.bool lT,.bool lU,.int .i64 lZ,.slice tK je.length tL,.string jo,.bool nI,.int .i64 gW,.int .i64 jf]) (t:=39) ?_;intro FQ hg w36 hbox hb;have gN:=ah.mk (hbox);have qJ:=gw HB hg;have FU:=qJ;replace HB:=ah.mk (ai (zb HB) hb);clear hb hbox hg;obtain⟨Ew,Ey,K9,Ka,a6C,a6D,a6E,a6F,a6G,a6H,ZM,ZN,Ez,EA,Kb,Ke,a6I,a6J,a6K,a6L,a6M,a6N,ZO,ZP⟩:=c12 gN)|((with_reducible refine gq 53 rfl ?_);refine gl (some 5) Tryz.func53 #[.int .i64 aY] ?_;(with_reducible refine(cO.calls aY true _ A2.out).mono ?_);rintro e w' ⟨rfl,⟨nd,rfl⟩⟩;refine⟨_,rfl,?_⟩)|(go_at_call 44;(with_reducible refine(cK.calls aA 1 3 true _ A4.out).mono ?_);rintro e w' ⟨rfl,⟨nd,rfl⟩⟩)|(go_at_call 54;(with_reducible refine(bg.calls k _ _ jB true _ ?aN ?aQ A6.out).mono ?_);(case aN=>exact(Kd.C_below rP.out (zb HB)));(case aQ=>exact rQ.out);rintro e w38 ⟨rfl,hb⟩;replace gN:=kb gN hb;replace HB:=ah.mk (ai (zb HB) hb);(try clear hb);obtain⟨EB,EC,EF,Uo,a6O,a6P,a6Q,a6R,a6S,a6T,ZQ,ZR,EG,EH,EI,Uq,a6U,a6V,a6W,a6X,a6Y,a6Z,ZT,ZU⟩:=c12 gN)|(go_at_call 54;(with_reducible refine(bg.calls k _ _ je true _ ?aN ?aQ A8.out).mono ?_);(case aN=>exact zc (Kd.C_below vW.out HB.out));(case aQ=>exact vX.out);rintro e w40 ⟨rfl,hb⟩;replace gN:=kb gN hb;replace HB:=ah.mk (ai (zb HB) hb);(try clear hb);obtain⟨EJ,EK,EL,Kg,a7a,a7b,a7c,a7d,a7e,a7f,ZV,ZW,EM,EN,EO,Kh,a7g,a7h,a7i,a7j,a7k,a7l,ZX,ZY⟩:=c12 gN)|(go_at_call 55;(with_reducible refine(aZ.calls k cZ false _ Qx.out).mono ?_);rintro e w' ⟨rfl,⟨nd,rfl⟩⟩))
      go_ret
      exact⟨ze,zb HB⟩
    ·replace c9:=Bool.eq_false_iff.mpr c9
     subst c9
     rw[if_neg (show ¬(false=true) by decide)]at H
     obtain rfl:=Option.some.inj H
     go_enter Tryz.func28,Tryz.ntmps28
     go_wp2_with (first|((with_reducible refine gd 1 rfl ?_);(try(refine ay (by rfl) ?_;dsimp only));refine bx (N:=1) (cs:=#[.int .i64 aY,.int .i64 aA,.slice ql jB.length qm,.string cZ,.bool lT,.bool lU,.int .i64 lZ,.slice tK je.length tL,.string jo,.bool nI,.int .i64 gW,.int .i64 jf]) (t:=39) ?_;intro FQ hg w42 hbox hb;have gN:=ah.mk (hbox);have qJ:=gw HB hg;have FU:=qJ;replace HB:=ah.mk (ai (zb HB) hb);clear hb hbox hg;obtain⟨Ur,Us,Ut,Uu,a7m,a7n,a7o,a7p,a7q,a7r,a00,a01,Uv,Uw,Ux,Uy,a7s,a7t,a7u,a7v,a7w,a7x,a02,a03⟩:=c12 gN)|((with_reducible refine gq 53 rfl ?_);refine gl (some 5) Tryz.func53 #[.int .i64 aY] ?_;(with_reducible refine(cO.calls aY true _ A2.out).mono ?_);rintro e w' ⟨rfl,⟨nd,rfl⟩⟩;refine⟨_,rfl,?_⟩)|(go_at_call 44;(with_reducible refine(cK.calls aA 1 3 true _ A4.out).mono ?_);rintro e w' ⟨rfl,⟨nd,rfl⟩⟩)|(go_at_call 54;(with_reducible refine(bg.calls k _ _ jB true _ ?aN ?aQ A6.out).mono ?_);(case aN=>exact(Kd.C_below rP.out (zb HB)));(case aQ=>exact rQ.out);rintro e w44 ⟨rfl,hb⟩;replace gN:=kb gN hb;replace HB:=ah.mk (ai (zb HB) hb);(try clear hb);obtain⟨as2,as3,as4,as5,as6,as7,as8,as9,asa,asb,akB,akC,asc,ase,asf,asg,ash,asi,asj,asl,asn,aso,akD,akE⟩:=c12 gN)|(go_at_call 54;(with_reducible refine(bg.calls k _ _ je false _ ?aN ?aQ A8.out).mono ?_);(case aN=>exact zc (Kd.C_below vW.out HB.out));(case aQ=>exact vX.out);rintro e w46 ⟨rfl,hb⟩;replace gN:=kb gN hb;replace HB:=ah.mk (ai (zb HB) hb);(try clear hb)))
     go_ret
     exact⟨ze,zb HB⟩
   ·replace c7:=Bool.eq_false_iff.mpr c7
    subst c7
    rw[if_neg (show ¬(false=true) by decide)]at H
    obtain rfl:=Option.some.inj H
    go_enter Tryz.func28,Tryz.ntmps28
    go_wp2_with (first|((with_reducible refine gd 1 rfl ?_);(try(refine ay (by rfl) ?_;dsimp only));refine bx (N:=1) (cs:=#[.int .i64 aY,.int .i64 aA,.slice ql jB.length qm,.string cZ,.bool lT,.bool lU,.int .i64 lZ,.slice tK je.length tL,.string jo,.bool nI,.int .i64 gW,.int .i64 jf]) (t:=39) ?_;intro FQ hg w47 hbox hb;have gN:=ah.mk (hbox);have qJ:=gw HB hg;have FU:=qJ;replace HB:=ah.mk (ai (zb HB) hb);clear hb hbox hg;obtain⟨asq,asr,ast,asu,asv,asw,asx,asy,asz,asA,akF,akG,asB,asC,asD,asE,asF,asG,asH,asI,asJ,asK,akH,akI⟩:=c12 gN)|((with_reducible refine gq 53 rfl ?_);refine gl (some 5) Tryz.func53 #[.int .i64 aY] ?_;(with_reducible refine(cO.calls aY true _ A2.out).mono ?_);rintro e w' ⟨rfl,⟨nd,rfl⟩⟩;refine⟨_,rfl,?_⟩)|(go_at_call 44;(with_reducible refine(cK.calls aA 1 3 true _ A4.out).mono ?_);rintro e w' ⟨rfl,⟨nd,rfl⟩⟩)|(go_at_call 54;(with_reducible refine(bg.calls k _ _ jB false _ ?aN ?aQ A6.out).mono ?_);(case aN=>exact(Kd.C_below rP.out (zb HB)));(case aQ=>exact rQ.out);rintro e w49 ⟨rfl,hb⟩;replace gN:=kb gN hb;replace HB:=ah.mk (ai (zb HB) hb);(try clear hb)))
    go_ret
    exact⟨ze,zb HB⟩
  ·replace c5:=Bool.eq_false_iff.mpr c5
   subst c5
   rw[if_neg (show ¬(false=true) by decide)]at H
   obtain rfl:=Option.some.inj H
   go_enter Tryz.func28,Tryz.ntmps28
   go_wp2_with (first|((with_reducible refine gd 1 rfl ?_);(try(refine ay (by rfl) ?_;dsimp only));refine bx (N:=1) (cs:=#[.int .i64 aY,.int .i64 aA,.slice ql jB.length qm,.string cZ,.bool lT,.bool lU,.int .i64 lZ,.slice tK je.length tL,.string jo,.bool nI,.int .i64 gW,.int .i64 jf]) (t:=39) ?_;intro FQ hg w50 hbox hb;have gN:=ah.mk (hbox);have qJ:=gw HB hg;have FU:=qJ;replace HB:=ah.mk (ai (zb HB) hb);clear hb hbox hg;obtain⟨asL,asM,asN,asO,asP,asQ,asR,asS,asT,asU,akJ,akK,asV,asW,asX,asY,asZ,at0,at1,at5,at6,at7,akL,akM⟩:=c12 gN)|((with_reducible refine gq 53 rfl ?_);refine gl (some 5) Tryz.func53 #[.int .i64 aY] ?_;(with_reducible refine(cO.calls aY true _ A2.out).mono ?_);rintro e w' ⟨rfl,⟨nd,rfl⟩⟩;refine⟨_,rfl,?_⟩)|(go_at_call 44;(with_reducible refine(cK.calls aA 1 3 false _ A4.out).mono ?_);rintro e w' ⟨rfl,⟨nd,rfl⟩⟩))
   go_ret
   exact⟨ze,zb HB⟩
 ·replace c3:=Bool.eq_false_iff.mpr c3
  subst c3
  rw[if_neg (show ¬(false=true) by decide)]at H
  obtain rfl:=Option.some.inj H
  go_enter Tryz.func28,Tryz.ntmps28
  go_wp2_with (first|((with_reducible refine gd 1 rfl ?_);(try(refine ay (by rfl) ?_;dsimp only));refine bx (N:=1) (cs:=#[.int .i64 aY,.int .i64 aA,.slice ql jB.length qm,.string cZ,.bool lT,.bool lU,.int .i64 lZ,.slice tK je.length tL,.string jo,.bool nI,.int .i64 gW,.int .i64 jf]) (t:=39) ?_;intro FQ hg w52 hbox hb;have gN:=ah.mk (hbox);have qJ:=gw HB hg;have FU:=qJ;replace HB:=ah.mk (ai (zb HB) hb);clear hb hbox hg;obtain⟨ata,atb,atc,atd,ate,atf,atg,ath,ati,atj,akN,akO,atl,atm,atn,ato,atp,atq,atr,att,atu,atv,akP,akQ⟩:=c12 gN)|((with_reducible refine gq 53 rfl ?_);refine gl (some 5) Tryz.func53 #[.int .i64 aY] ?_;(with_reducible refine(cO.calls aY false _ A2.out).mono ?_);rintro e w' ⟨rfl,⟨nd,rfl⟩⟩;refine⟨_,rfl,?_⟩))
  go_ret
  exact⟨ze,zb HB⟩
def di.j0:Nat→Int→Bool→Int→Bool→Int→ByteArray→Option (Bool)
 |0,_,_,_,_,_,_=>none
 |k+1,x4,x5,atw,Ki,EP,rR=>if x5=true then((cO.f EP).bind fun aes=>(if aes=true then(some (decide ((rR.size:Int)≤200)))else(some false)))else(if x4=3 then((cO.f EP).bind fun aeu=>(if aeu=true then(if Ki=true then(some false)else(some (rR.toList==([]:List UInt8))))else(some false)))else(if x4=8 then(if EP=0 then(if Ki=true then(some false)else(if(rR.size:Int)=1 then(if 0<(rR.size:Int)then((cK.f (wrap64 (bt rR 0)) 1 31).bind fun aev=>(some aev))else(none))else(some false)))else((cO.f EP).bind fun t124=>(if t124=true then(if Ki=true then(some false)else(if(rR.size:Int)=1 then(if 0<(rR.size:Int)then((cK.f (wrap64 (bt rR 0)) 1 31).bind fun aew=>(some aew))else(none))else(some false)))else(some false))))else(some false)))
def di.f(k:Nat)(aY:Int)(aA:Bool)(dP:Int)(cZ:ByteArray):Option (Bool):=if aY=0 then(di.j0 k aY (aY==0) aY aA dP cZ)else(di.j0 k aY (aY==1) aY aA dP cZ)
theorem di.mono_l:∀k,(∀y0 y1 y2 y3 y4 y5,gM (di.j0 k y0 y1 y2 y3 y4 y5) (di.j0 (k+1) y0 y1 y2 y3 y4 y5))
 |0=>fun _ _ _ _ _ _ r h=>by simp[di.j0]at h
 |k+1=>by
  have mW:=di.mono_l k
  ·intro y0 y1 y2 y3 y4 y5
   unfold di.j0
   exact zm
theorem di.mono:∀a0 a1 a2 a3 k,gM (di.f k a0 a1 a2 a3) (di.f (k+1) a0 a1 a2 a3):=by
 intro a0 a1 a2 a3 k
 have mW:=di.mono_l k
 unfold di.f
 exact zm
theorem di.calls(k:Nat)(aY:Int)(aA:Bool)(dP:Int)(cZ:ByteArray)(r:Bool)(w:World)(h:di.f k aY aA dP cZ=some r):
 Calls Tryz.prog 29 #[.agg #[.int .i64 aY,.bool aA,.int .i64 dP,.string cZ]] w fun e w'=>e= .returned (.bool r)∧Below w.heap.size w w':=by
 have Xp:=Tryz.underlying42
 have HB:=ah.mk (Below.refl w.heap.size w)
 have H:(if aY=0 then(di.j0 k aY (aY==0) aY aA dP cZ)else(di.j0 k aY (aY==1) aY aA dP cZ))=some r:=h
 clear h
 have HC2:=ah.mk H
 clear H
 go_enter Tryz.func29,Tryz.ntmps29
 go_upto_if 5 with(first|((with_reducible refine gd 1 rfl ?_);(try(refine ay (by rfl) ?_;dsimp only));refine bx (N:=1) (cs:=#[.int .i64 aY,.bool aA,.int .i64 dP,.string cZ]) (t:=42) ?_;intro akR hg w3 hbox hb;have qg:=ah.mk (hbox);have akS:=gw HB hg;have aLB:=akS;replace HB:=ah.mk (ai (zb HB) hb);clear hb hbox hg;obtain⟨qK,qL,uL,vY,uM,qM,uN,vZ⟩:=c4 qg))
 (try simp only[Act.put,s1,s2,s3])
 go_cut [5] (fun v5 wc=>∃(kq:Nat)(fP:Bool),v5= .bool fP∧ah (di.j0 kq aY fP aY aA dP cZ=some r)∧ah (kq≤k)∧ah (wc.heap[akR]?=some (.cells #[.int .i64 aY,.bool aA,.int .i64 dP,.string cZ] 42 (0,0)))∧ah (Below w.heap.size w wc))
 case first=>
  have H:=HC2.out
  clear HC2
  replace H:=sp H
  rcases H with⟨c5,H⟩|⟨c5,H⟩
  ·skip
   have c5b0:(aY==0)=true:=beq_iff_eq.mpr c5
   have c5b1:(aY != 0)=false:=bne_eq_false_iff_eq.mpr c5
   clear c5
   (first|rw[c5b0]|rw[c5b1]|rw[c5b2]|(simp only[gI,iB];rw[c5b0])|skip)
   have H':=ah.mk H
   clear H
   go_wp2
   go_meet
   case rel=>exact⟨_,((aY==0)),zs,H',⟨by first|omega|exact Nat.le_refl _⟩,⟨by exact zk qg⟩,⟨zb HB⟩⟩
  ·skip
   have c5b0:(aY==0)=false:=beq_eq_false_iff_ne.mpr c5
   have c5b1:(aY != 0)=true:=bne_iff_ne.mpr c5
   (first|rw[c5b0]|rw[c5b1]|rw[c5b2]|(simp only[gI,iB];rw[c5b0])|skip)
   have H':=ah.mk H
   clear H
   go_wp2
   go_meet
   case rel=>exact⟨_,((aY==1)),zs,H',⟨by first|omega|exact Nat.le_refl _⟩,⟨by exact zk qg⟩,⟨zb HB⟩⟩
 case rest=>
  clear HC2
  try clear c2
  try clear p2
  try clear c5
  try clear c5b0
  try clear c5b1
  try clear c5b2
  try clear qK
  try clear qL
  try clear uL
  try clear vY
  try clear uM
  try clear qM
  try clear uN
  try clear vZ
  obtain⟨kq,fP,rfl,HA,HJ1,qg,HB⟩:=hcut
  cases kq with
  |zero=>exact absurd HA.out (by simp[di.j0])
  |succ kj1=>
   have H:=HA.out
   clear HA
   simp only[di.j0]at H
   by_cases c6:fP=true
   ·subst c6
    rw[if_pos rfl]at H
    obtain⟨aes,A7,H⟩:=ob H
    (try dsimp only at H)
    by_cases c8:aes=true
    ·subst c8
     rw[if_pos rfl]at H
     obtain rfl:=Option.some.inj H
     obtain⟨yM,yN,BO,a04,yO,yP,BP,a05⟩:=c4 qg
     go_wp2_with (first|((with_reducible refine gq 53 rfl ?_);refine gl (some 10) Tryz.func53 #[.int .i64 dP] ?_;(with_reducible refine(cO.calls dP true _ A7.out).mono ?_);rintro e w' ⟨rfl,⟨nd,rfl⟩⟩;refine⟨_,rfl,?_⟩))
     go_ret
     exact⟨ze,zb HB⟩
    ·replace c8:=Bool.eq_false_iff.mpr c8
     subst c8
     rw[if_neg (show ¬(false=true) by decide)]at H
     obtain rfl:=Option.some.inj H
     obtain⟨EQ,ER,Uz,a7y,ES,EU,UA,a7z⟩:=c4 qg
     go_wp2_with (first|((with_reducible refine gq 53 rfl ?_);refine gl (some 10) Tryz.func53 #[.int .i64 dP] ?_;(with_reducible refine(cO.calls dP false _ A7.out).mono ?_);rintro e w' ⟨rfl,⟨nd,rfl⟩⟩;refine⟨_,rfl,?_⟩))
     go_ret
     exact⟨ze,zb HB⟩
   ·replace c6:=Bool.eq_false_iff.mpr c6
    subst c6
    rw[if_neg (show ¬(false=true) by decide)]at H
    replace H:=sp H
    rcases H with⟨c11,H⟩|⟨c11,H⟩
    ·skip
     have c11b0:(aY==3)=true:=beq_iff_eq.mpr c11
     have c11b1:(aY != 3)=false:=bne_eq_false_iff_eq.mpr c11
     clear c11
     obtain⟨aeu,Xo,H⟩:=ob H
     (try dsimp only at H)
     by_cases c13:aeu=true
     ·subst c13
      rw[if_pos rfl]at H
      by_cases c14:aA=true
      ·subst c14
       rw[if_pos rfl]at H
       obtain rfl:=Option.some.inj H
       obtain⟨zM,zN,zO,UB,zP,zQ,zR,UC⟩:=c4 qg
       go_wp2_with (first|((with_reducible refine gq 53 rfl ?_);refine gl (some 21) Tryz.func53 #[.int .i64 dP] ?_;(with_reducible refine(cO.calls dP true _ Xo.out).mono ?_);rintro e w' ⟨rfl,⟨nd,rfl⟩⟩;refine⟨_,rfl,?_⟩))
       go_ret
       exact⟨ze,zb HB⟩
      ·replace c14:=Bool.eq_false_iff.mpr c14
       subst c14
       rw[if_neg (show ¬(false=true) by decide)]at H
       obtain rfl:=Option.some.inj H
       obtain⟨EW,EX,Kj,Kk,EY,EZ,Kl,Km⟩:=c4 qg
       go_wp2_with (first|((with_reducible refine gq 53 rfl ?_);refine gl (some 21) Tryz.func53 #[.int .i64 dP] ?_;(with_reducible refine(cO.calls dP true _ Xo.out).mono ?_);rintro e w' ⟨rfl,⟨nd,rfl⟩⟩;refine⟨_,rfl,?_⟩))
       go_ret
       exact⟨ze,zb HB⟩
     ·replace c13:=Bool.eq_false_iff.mpr c13
      subst c13
      rw[if_neg (show ¬(false=true) by decide)]at H
      obtain rfl:=Option.some.inj H
      obtain⟨xu,xw,Kn,atx,xA,xB,Ko,aty⟩:=c4 qg
      go_wp2_with (first|((with_reducible refine gq 53 rfl ?_);refine gl (some 21) Tryz.func53 #[.int .i64 dP] ?_;(with_reducible refine(cO.calls dP false _ Xo.out).mono ?_);rintro e w' ⟨rfl,⟨nd,rfl⟩⟩;refine⟨_,rfl,?_⟩))
      go_ret
      exact⟨ze,zb HB⟩
    ·skip
     have c11b0:(aY==3)=false:=beq_eq_false_iff_ne.mpr c11
     have c11b1:(aY != 3)=true:=bne_iff_ne.mpr c11
     replace H:=sp H
     rcases H with⟨c18,H⟩|⟨c18,H⟩
     ·skip
      have c18b0:(aY==8)=true:=beq_iff_eq.mpr c18
      have c18b1:(aY != 8)=false:=bne_eq_false_iff_eq.mpr c18
      clear c18
      by_cases c19:dP=0
      ·rw[if_pos c19]at H
       have c19b0:(dP==0)=true:=beq_iff_eq.mpr c19
       have c19b1:(dP != 0)=false:=bne_eq_false_iff_eq.mpr c19
       clear c19
       by_cases c20:aA=true
       ·subst c20
        rw[if_pos rfl]at H
        obtain rfl:=Option.some.inj H
        obtain⟨Kq,Kr,a7A,atz,UD,Kt,a7B,atA⟩:=c4 qg
        go_wp2
        go_ret
        exact⟨ze,zb HB⟩
       ·replace c20:=Bool.eq_false_iff.mpr c20
        subst c20
        rw[if_neg (show ¬(false=true) by decide)]at H
        by_cases Mt:(cZ.size:Int)=1
        ·rw[if_pos Mt]at H
         have c22b0:((cZ.size:Int)==1)=true:=beq_iff_eq.mpr Mt
         have c22b1:((cZ.size:Int) != 1)=false:=bne_eq_false_iff_eq.mpr Mt
         clear Mt
         by_cases c23:0<(cZ.size:Int)
         ·rw[if_pos c23]at H
          have c23b0:=decide_eq_true c23
          have c23b1:=decide_eq_true (by omega)
          clear c23
          obtain⟨aev,A25,H⟩:=ob H
          (try dsimp only at H)
          obtain rfl:=Option.some.inj H
          obtain⟨Ku,Kv,a7C,atB,Kw,Ky,a7D,atC⟩:=c4 qg
          have p24:0≤(0:Int):=(by omega)
          have q24:0<cZ.size:=(by have:(0:Int)<(cZ.size:Int):=of_decide_eq_true za;omega)
          have hx24:∀h:0<cZ.size,((cZ[0]'h).toNat:Int)=bt cZ 0:=fF cZ 0
          clear p24
          have aQf:(0<(cZ.size:Int))=True:=eq_true (of_decide_eq_true za)
          replace q24:=eq_true q24
          go_wp2_with (first|(go_at_call 44;(with_reducible refine(cK.calls (wrap64 (bt cZ 0)) 1 31 aev _ A25.out).mono ?_);rintro e w' ⟨rfl,⟨nd,rfl⟩⟩))
          go_ret
          exact⟨ze,zb HB⟩
         ·rw[if_neg c23]at H
          exact absurd H (by simp)
        ·rw[if_neg Mt]at H
         have c22b0:((cZ.size:Int)==1)=false:=beq_eq_false_iff_ne.mpr Mt
         have c22b1:((cZ.size:Int) != 1)=true:=bne_iff_ne.mpr Mt
         obtain rfl:=Option.some.inj H
         obtain⟨JL,JM,JN,JO,JP,JQ,JR,JS⟩:=c4 qg
         go_wp2
         go_ret
         exact⟨ze,zb HB⟩
      ·rw[if_neg c19]at H
       have c19b0:(dP==0)=false:=beq_eq_false_iff_ne.mpr c19
       have c19b1:(dP != 0)=true:=bne_iff_ne.mpr c19
       obtain⟨t124,A28,H⟩:=ob H
       (try dsimp only at H)
       by_cases N9:t124=true
       ·subst N9
        rw[if_pos rfl]at H
        by_cases R7:aA=true
        ·subst R7
         rw[if_pos rfl]at H
         obtain rfl:=Option.some.inj H
         obtain⟨Eo,Ep,Er,Uk,Es,Et,Eu,Ul⟩:=c4 qg
         go_wp2_with (first|(go_at_call 53;(with_reducible refine(cO.calls dP true _ A28.out).mono ?_);rintro e w' ⟨rfl,⟨nd,rfl⟩⟩))
         go_ret
         exact⟨ze,zb HB⟩
        ·replace R7:=Bool.eq_false_iff.mpr R7
         subst R7
         rw[if_neg (show ¬(false=true) by decide)]at H
         by_cases c32:(cZ.size:Int)=1
         ·rw[if_pos c32]at H
          have c32b0:((cZ.size:Int)==1)=true:=beq_iff_eq.mpr c32
          have c32b1:((cZ.size:Int) != 1)=false:=bne_eq_false_iff_eq.mpr c32
          clear c32
          by_cases c33:0<(cZ.size:Int)
          ·rw[if_pos c33]at H
           have c33b0:=decide_eq_true c33
           have c33b1:=decide_eq_true (by omega)
           clear c33
           obtain⟨aew,A35,H⟩:=ob H
           (try dsimp only at H)
           obtain rfl:=Option.some.inj H
           obtain⟨a7E,a7F,a7G,a7H,a7I,a7J,a7K,a7L⟩:=c4 qg
           go_wp2_with (first|(go_at_call 53;(with_reducible refine(cO.calls dP true _ A28.out).mono ?_);rintro e w' ⟨rfl,⟨nd,rfl⟩⟩;have p34:0≤(0:Int):=(by omega);have q34:0<cZ.size:=(by have:(0:Int)<(cZ.size:Int):=of_decide_eq_true za;omega);have hx34:∀h:0<cZ.size,((cZ[0]'h).toNat:Int)=bt cZ 0:=fF cZ 0;clear p34;have aQg:(0<(cZ.size:Int))=True:=eq_true (of_decide_eq_true za);replace q34:=eq_true q34)|(go_at_call 44;(with_reducible refine(cK.calls (wrap64 (bt cZ 0)) 1 31 aew _ A35.out).mono ?_);rintro e w' ⟨rfl,⟨nd,rfl⟩⟩))
           go_ret
           exact⟨ze,zb HB⟩
          ·rw[if_neg c33]at H
           exact absurd H (by simp)
         ·rw[if_neg c32]at H
          have c32b0:((cZ.size:Int)==1)=false:=beq_eq_false_iff_ne.mpr c32
          have c32b1:((cZ.size:Int) != 1)=true:=bne_iff_ne.mpr c32
          obtain rfl:=Option.some.inj H
          obtain⟨Ew,Ey,K9,Ka,Ez,EA,Kb,Ke⟩:=c4 qg
          go_wp2_with (first|(go_at_call 53;(with_reducible refine(cO.calls dP true _ A28.out).mono ?_);rintro e w' ⟨rfl,⟨nd,rfl⟩⟩))
          go_ret
          exact⟨ze,zb HB⟩
       ·replace N9:=Bool.eq_false_iff.mpr N9
        subst N9
        rw[if_neg (show ¬(false=true) by decide)]at H
        obtain rfl:=Option.some.inj H
        obtain⟨zT,zU,zV,Kz,zX,zY,zZ,KA⟩:=c4 qg
        go_wp2_with (first|(go_at_call 53;(with_reducible refine(cO.calls dP false _ A28.out).mono ?_);rintro e w' ⟨rfl,⟨nd,rfl⟩⟩))
        go_ret
        exact⟨ze,zb HB⟩
     ·skip
      have c18b0:(aY==8)=false:=beq_eq_false_iff_ne.mpr c18
      have c18b1:(aY != 8)=true:=bne_iff_ne.mpr c18
      obtain rfl:=Option.some.inj H
      go_wp2
      go_ret
      exact⟨ze,zb HB⟩
def oM.f(aY:ByteArray)(aA:ByteArray)(dP:Bool):Option (Int):=some (wrap64 ((wrap64 ((aY.size:Int)+(aA.size:Int)))+4))
theorem oM.calls(aY:ByteArray)(aA:ByteArray)(dP:Bool)(r:Int)(w:World)(h:oM.f aY aA dP=some r):
 Calls Tryz.prog 75 #[.agg #[.string aY,.string aA,.bool dP]] w fun e w'=>e= .returned (.int .i64 r)∧Below w.heap.size w w':=by
 have sN:=Tryz.underlying89
 have HB:=ah.mk (Below.refl w.heap.size w)
 have H:(some (wrap64 ((wrap64 ((aY.size:Int)+(aA.size:Int)))+4)))=some r:=h
 clear h
 obtain rfl:=Option.some.inj H
 go_enter Tryz.func75,Tryz.ntmps75
 go_wp2_with (first|((with_reducible refine gd 1 rfl ?_);refine bx (N:=1) (cs:=#[.string aY,.string aA,.bool dP]) (t:=89) ?_;intro aLD hg w2 hbox hb;have akT:=ah.mk (hbox);have akU:=gw HB hg;have aLE:=akU;replace HB:=ah.mk (ai (zb HB) hb);clear hb hbox hg;obtain⟨a06,a07,aCh,a08,a09,aCi⟩:=c3 akT))
 go_ret
 exact⟨ze,zb HB⟩
def dA.l0:Nat→List (bf)→Int→Int→Option (Int)
 |0,_,_,_=>none
 |k+1,x0,x3,x4=>if x4<(x0.length:Int)then(if 0≤x4 then((oM.f ((aU x0 x4).f0) ((aU x0 x4).f1) ((aU x0 x4).f2)).bind fun a7M=>(dA.l0 k x0 (wrap64 (x3+a7M)) (wrap64 (x4+1))))else(none))else(some x3)
def dA.f(k:Nat)(l0:List (bf)):Option (Int):=dA.l0 k l0 0 0
theorem dA.mono_l:∀k,(∀y0 y1 y2,gM (dA.l0 k y0 y1 y2) (dA.l0 (k+1) y0 y1 y2))
 |0=>fun _ _ _ r h=>by simp[dA.l0]at h
 |k+1=>by
  have mW:=dA.mono_l k
  ·intro y0 y1 y2
   unfold dA.l0
   exact zm
theorem dA.mono:∀a0 k,gM (dA.f k a0) (dA.f (k+1) a0):=by
 intro a0 k
 have mW:=dA.mono_l k
 unfold dA.f
 exact zm
theorem dA.calls(k:Nat)(A0:Option Addr)(c0:Nat)(l0:List (bf))(r:Int)(w:World)(hr0:Kd.C iH w A0 l0.length l0)(hc0:l0.length≤c0)(h:dA.f k l0=some r):
 Calls Tryz.prog 57 #[.slice A0 l0.length c0] w fun e w'=>e= .returned (.int .i64 r)∧Below w.heap.size w w':=by
 have sN:=Tryz.underlying89
 have En:=ah.mk hr0
 have Z7:=ah.mk hc0
 clear hr0 hc0
 have HB:=ah.mk (Below.refl w.heap.size w)
 have H:(dA.l0 k l0 0 0)=some r:=h
 clear h
 have H':=ah.mk H
 clear H
 go_enter Tryz.func57,Tryz.ntmps57
 go_wp2
 go_loopg [3,4] k (fun kq v3 v4 w'=>∃(dh:Int)(eB:Int),v3= .int .i64 dh∧v4= .int .i64 eB∧ah (dA.l0 kq l0 dh eB=some r)∧ah (kq≤k)∧ah (Below w.heap.size w w'))
 case atStart=>exact⟨(0),(0),zs,zs,H',⟨Nat.le_refl _⟩,⟨zb HB⟩⟩
 case round=>
  clear H'
  obtain⟨dh,eB,rfl,rfl,HA,jd,HB⟩:=hrel
  cases gk with
  |zero=>exact absurd HA.out (by simp[dA.l0])
  |succ k1=>
   have H:=HA.out
   clear HA
   simp only[dA.l0]at H
   replace H:=sp H
   rcases H with⟨c2,H⟩|⟨c2,H⟩
   ·skip
    have c2b0:=decide_eq_true c2
    clear c2
    by_cases c3:0≤eB
    ·rw[if_pos c3]at H
     have c3b0:=decide_eq_true c3
     clear c3
     obtain⟨a7M,A4,H⟩:=ob H
     (try dsimp only at H)
     have H':=ah.mk H
     clear H
     have aey:0≤(eB:Int):=of_decide_eq_true za
     have aez:eB<(l0.length:Int):=of_decide_eq_true za
     obtain⟨aLF,e127,UE,UF,UG⟩:=eT En.out eB aey aez
     cases e127
     replace UE:=pX UE HB
     replace UF:=pX UF HB
     replace UG:=pX UG HB
     replace aey:=eq_true aey
     replace aez:=eq_true aez
     go_wp2_with (first|((with_reducible refine gq 75 rfl ?_);refine gl (some 16) Tryz.func75 #[.agg #[.string ((aU l0 eB).f0),.string ((aU l0 eB).f1),.bool ((aU l0 eB).f2)]] ?_;(with_reducible refine(oM.calls ((aU l0 eB).f0) ((aU l0 eB).f1) ((aU l0 eB).f2) a7M _ A4.out).mono ?_);rintro e w5 ⟨rfl,hb⟩;refine⟨_,rfl,?_⟩;replace HB:=ah.mk (ai (zb HB) hb);(try clear hb)))
     go_roundg k1
     case measure=>have:=jd.out;omega
     case rel=>exact⟨(wrap64 (dh+a7M)),(wrap64 (eB+1)),zs,zs,H',⟨by have:=jd.out;omega⟩,⟨zb HB⟩⟩
    ·rw[if_neg c3]at H
     exact absurd H (by simp)
   ·skip
    have c2b0:=decide_eq_false c2
    clear c2
    obtain rfl:=Option.some.inj H
    go_wp2
    go_ret
    exact⟨ze,zb HB⟩
def eZ.f(a0:Int)(a1:Int)(a2:Int):Option (Bool):=if a1≤a0 then(some (decide (a0≤a2)))else(some false)
theorem eZ.calls(a0:Int)(a1:Int)(a2:Int)(r:Bool)(w:World)(h:eZ.f a0 a1 a2=some r):
 Calls Tryz.prog 43 #[.int .i64 a0,.int .i64 a1,.int .i64 a2] w fun e w'=>e= .returned (.bool r)∧aT w w':=by
 have H:(if a1≤a0 then(some (decide (a0≤a2)))else(some false))=some r:=h
 clear h
 replace H:=sp H
 rcases H with⟨c4,H⟩|⟨c4,H⟩
 ·skip
  have c4b0:=decide_eq_true c4
  clear c4
  obtain rfl:=Option.some.inj H
  go_enter Tryz.func43,Tryz.ntmps43
  go_wp2
  go_ret
  exact⟨zs,by repeat(first|exact aT.refl _|apply aT.step)⟩
 ·skip
  have c4b0:=decide_eq_false c4
  clear c4
  obtain rfl:=Option.some.inj H
  go_enter Tryz.func43,Tryz.ntmps43
  go_wp2
  go_ret
  exact⟨zs,by repeat(first|exact aT.refl _|apply aT.step)⟩
def gB.f(a0:Int):Option (Bool):=(eZ.f a0 1 7).bind fun a0a=>(if a0a=true then(some ((Int.tmod a0 2)==1))else(some false))
theorem gB.calls(a0:Int)(r:Bool)(w:World)(h:gB.f a0=some r):
 Calls Tryz.prog 35 #[.int .i64 a0] w fun e w'=>e= .returned (.bool r)∧aT w w':=by
 have H:((eZ.f a0 1 7).bind fun a0a=>(if a0a=true then(some ((Int.tmod a0 2)==1))else(some false)))=some r:=h
 clear h
 obtain⟨a0a,A2,H⟩:=ob H
 (try dsimp only at H)
 by_cases c3:a0a=true
 ·subst c3
  rw[if_pos rfl]at H
  obtain rfl:=Option.some.inj H
  go_enter Tryz.func35,Tryz.ntmps35
  go_wp2_with (first|((with_reducible refine gq 43 rfl ?_);refine gl (some 4) Tryz.func43 #[.int .i64 a0,.int .i64 1,.int .i64 7] ?_;(with_reducible refine(eZ.calls a0 1 7 true _ A2.out).mono ?_);rintro e w' ⟨rfl,⟨nd,rfl⟩⟩;refine⟨_,rfl,?_⟩))
  go_ret
  exact⟨zs,by repeat(first|exact aT.refl _|apply aT.step)⟩
 ·replace c3:=Bool.eq_false_iff.mpr c3
  subst c3
  rw[if_neg (show ¬(false=true) by decide)]at H
  obtain rfl:=Option.some.inj H
  go_enter Tryz.func35,Tryz.ntmps35
  go_wp2_with (first|((with_reducible refine gq 43 rfl ?_);refine gl (some 4) Tryz.func43 #[.int .i64 a0,.int .i64 1,.int .i64 7] ?_;(with_reducible refine(eZ.calls a0 1 7 false _ A2.out).mono ?_);rintro e w' ⟨rfl,⟨nd,rfl⟩⟩;refine⟨_,rfl,?_⟩))
  go_ret
  exact⟨zs,by repeat(first|exact aT.refl _|apply aT.step)⟩
def kS.f(aY:Int)(aA:Int):Option (Bool):=(eZ.f aY 0 31).bind fun a0b=>(if a0b=true then((eZ.f aA 0 31).bind fun a0c=>(some a0c))else(some false))
theorem kS.calls(aY:Int)(aA:Int)(r:Bool)(w:World)(h:kS.f aY aA=some r):
 Calls Tryz.prog 41 #[.agg #[.int .i64 aY,.int .i64 aA]] w fun e w'=>e= .returned (.bool r)∧Below w.heap.size w w':=by
 have a4t:=Tryz.underlying28
 have HB:=ah.mk (Below.refl w.heap.size w)
 have H:((eZ.f aY 0 31).bind fun a0b=>(if a0b=true then((eZ.f aA 0 31).bind fun a0c=>(some a0c))else(some false)))=some r:=h
 clear h
 obtain⟨a0b,A2,H⟩:=ob H
 (try dsimp only at H)
 by_cases c3:a0b=true
 ·subst c3
  rw[if_pos rfl]at H
  obtain⟨a0c,A4,H⟩:=ob H
  (try dsimp only at H)
  obtain rfl:=Option.some.inj H
  go_enter Tryz.func41,Tryz.ntmps41
  go_wp2_with (first|((with_reducible refine gd 1 rfl ?_);refine bx (N:=1) (cs:=#[.int .i64 aY,.int .i64 aA]) (t:=28) ?_;intro akV hg w5 hbox hb;have a0d:=ah.mk (hbox);have a0e:=gw HB hg;have akW:=a0e;replace HB:=ah.mk (ai (zb HB) hb);clear hb hbox hg;obtain⟨FN,FO,R5,FP⟩:=c2 a0d)|((with_reducible refine gq 43 rfl ?_);refine gl (some 5) Tryz.func43 #[.int .i64 aY,.int .i64 0,.int .i64 31] ?_;(with_reducible refine(eZ.calls aY 0 31 true _ A2.out).mono ?_);rintro e w' ⟨rfl,⟨nd,rfl⟩⟩;refine⟨_,rfl,?_⟩)|(go_at_call 43;(with_reducible refine(eZ.calls aA 0 31 a0c _ A4.out).mono ?_);rintro e w' ⟨rfl,⟨nd,rfl⟩⟩))
  go_ret
  exact⟨ze,zb HB⟩
 ·replace c3:=Bool.eq_false_iff.mpr c3
  subst c3
  rw[if_neg (show ¬(false=true) by decide)]at H
  obtain rfl:=Option.some.inj H
  go_enter Tryz.func41,Tryz.ntmps41
  go_wp2_with (first|((with_reducible refine gd 1 rfl ?_);refine bx (N:=1) (cs:=#[.int .i64 aY,.int .i64 aA]) (t:=28) ?_;intro akV hg w7 hbox hb;have a0d:=ah.mk (hbox);have a0e:=gw HB hg;have akW:=a0e;replace HB:=ah.mk (ai (zb HB) hb);clear hb hbox hg;obtain⟨BK,BL,BM,BN⟩:=c2 a0d)|((with_reducible refine gq 43 rfl ?_);refine gl (some 5) Tryz.func43 #[.int .i64 aY,.int .i64 0,.int .i64 31] ?_;(with_reducible refine(eZ.calls aY 0 31 false _ A2.out).mono ?_);rintro e w' ⟨rfl,⟨nd,rfl⟩⟩;refine⟨_,rfl,?_⟩))
  go_ret
  exact⟨ze,zb HB⟩
def a0f.lays137_ren:Go.Shelf.Ren:=⟨fun|137=>77|217=>85|266=>91|n=>n,fun|9=>9|5=>5|3=>3|n=>n,fun|n=>n⟩
theorem a0f.lays137:Go.Proofs.Lays.n137 Tryz.prog a0f.lays137_ren:={
 mixed:=by kernel_rfl
 f137:=Tryz.func77.trans (congrArg some (by kernel_rfl))
 f217:=Tryz.func85.trans (congrArg some (by kernel_rfl))
 f266:=Tryz.func91.trans (congrArg some (by kernel_rfl))
 t3:=Tryz.underlying3
 a3:=Tryz.isAgg3
 z3:=Tryz.sizeOf3
 v3:=Tryz.zeroValue3
 t5:=Tryz.underlying5
 a5:=Tryz.isAgg5
 z5:=Tryz.sizeOf5
 v5:=Tryz.zeroValue5
 t9:=Tryz.underlying9
 a9:=Tryz.isAgg9
 z9:=Tryz.sizeOf9
 v9:=Tryz.zeroValue9}
def strings_IndexByte.f(a0:ByteArray)(a1:Int):Option (Int):=some (Lib.indexByte a0.data.toList a1.toNat.toUInt8)
theorem strings_IndexByte.calls(a0:ByteArray)(a1:Int)(r:Int)(w:World)(h:strings_IndexByte.f a0 a1=some r):
 Calls Tryz.prog 77 #[.string a0,.int .u8 a1] w fun e w'=>e= .returned (.int .i64 r)∧aT w w':=by
 simp only[strings_IndexByte.f,Option.some.injEq]at h
 subst h
 refine(Go.Proofs.Any.strings_IndexByte a0f.lays137 a0 a1 w).mono ?_
 rintro e w' ⟨rfl,rfl⟩
 exact⟨rfl,aT.refl _⟩
def bB.l0:Nat→ByteArray→Int→Int→Option (Bool)
 |0,_,_,_=>none
 |k+1,x0,x5,x6=>if x6<x5 then(if 0≤x6 then(if x6<(x0.size:Int)then((strings_IndexByte.f (⟨#[101,116,97,111,105,110,115,114,104,108,48,49,50,51,52,53,54,55,56,57,100,99,117,109,102,112,103,119,121,98,118,107,120,106,113,122,58,47,45]⟩:ByteArray) (bt x0 x6)).bind fun a0g=>(if a0g<0 then(some false)else(bB.l0 k x0 x5 (wrap64 (x6+1)))))else(none))else(none))else(some (decide ((x0.size:Int)≤16)))
def bB.f(k:Nat)(a0:ByteArray):Option (Bool):=bB.l0 k a0 (a0.size:Int) 0
theorem bB.mono_l:∀k,(∀y0 y1 y2,gM (bB.l0 k y0 y1 y2) (bB.l0 (k+1) y0 y1 y2))
 |0=>fun _ _ _ r h=>by simp[bB.l0]at h
 |k+1=>by
  have mW:=bB.mono_l k
  ·intro y0 y1 y2
   unfold bB.l0
   exact zm
theorem bB.mono:∀a0 k,gM (bB.f k a0) (bB.f (k+1) a0):=by
 intro a0 k
 have mW:=bB.mono_l k
 unfold bB.f
 exact zm
theorem bB.calls(k:Nat)(a0:ByteArray)(r:Bool)(w:World)(h:bB.f k a0=some r):
 Calls Tryz.prog 61 #[.string a0] w fun e w'=>e= .returned (.bool r)∧aT w w':=by
 have H:(bB.l0 k a0 (a0.size:Int) 0)=some r:=h
 clear h
 have H':=ah.mk H
 clear H
 go_enter Tryz.func61,Tryz.ntmps61
 go_wp2
 go_loopg [6] k (fun kq v6 w'=>∃(iW:Int),v6= .int .i64 iW∧ah (bB.l0 kq a0 (a0.size:Int) iW=some r)∧ah (kq≤k)∧aT w w')
 case atStart=>exact⟨(0),zs,H',⟨Nat.le_refl _⟩,by repeat(first|exact aT.refl _|apply aT.step)⟩
 case round=>
  clear H'
  obtain⟨iW,rfl,HA,jd,⟨m1,rfl⟩⟩:=hrel
  cases gk with
  |zero=>exact absurd HA.out (by simp[bB.l0])
  |succ k1=>
   have H:=HA.out
   clear HA
   simp only[bB.l0]at H
   replace H:=sp H
   rcases H with⟨c2,H⟩|⟨c2,H⟩
   ·skip
    have c2b0:=decide_eq_true c2
    clear c2
    by_cases c3:0≤iW
    ·rw[if_pos c3]at H
     have c3b0:=decide_eq_true c3
     clear c3
     by_cases c4:iW<(a0.size:Int)
     ·rw[if_pos c4]at H
      have c4b0:=decide_eq_true c4
      clear c4
      obtain⟨a0g,A6,H⟩:=ob H
      (try dsimp only at H)
      by_cases c7:a0g<0
      ·rw[if_pos c7]at H
       have c7b0:=decide_eq_true c7
       clear c7
       obtain rfl:=Option.some.inj H
       have p5:0≤(iW:Int):=of_decide_eq_true za
       have q5:iW<(a0.size:Int):=of_decide_eq_true za
       have hx5:=fF a0 iW
       replace p5:=eq_true p5
       replace q5:=eq_true q5
       go_wp2_with (first|((with_reducible refine gq 77 rfl ?_);refine gl (some 12) Tryz.func77 #[.string (⟨#[101,116,97,111,105,110,115,114,104,108,48,49,50,51,52,53,54,55,56,57,100,99,117,109,102,112,103,119,121,98,118,107,120,106,113,122,58,47,45]⟩:ByteArray),.int .u8 (bt a0 iW)] ?_;(with_reducible refine(strings_IndexByte.calls (⟨#[101,116,97,111,105,110,115,114,104,108,48,49,50,51,52,53,54,55,56,57,100,99,117,109,102,112,103,119,121,98,118,107,120,106,113,122,58,47,45]⟩:ByteArray) (bt a0 iW) a0g _ A6.out).mono ?_);rintro e w' ⟨rfl,⟨nd,rfl⟩⟩;refine⟨_,rfl,?_⟩))
       go_ret
       exact⟨zs,by repeat(first|exact aT.refl _|apply aT.step)⟩
      ·rw[if_neg c7]at H
       have c7b0:=decide_eq_false c7
       clear c7
       have H':=ah.mk H
       clear H
       have p5:0≤(iW:Int):=of_decide_eq_true za
       have q5:iW<(a0.size:Int):=of_decide_eq_true za
       have hx5:=fF a0 iW
       replace p5:=eq_true p5
       replace q5:=eq_true q5
       go_wp2_with (first|((with_reducible refine gq 77 rfl ?_);refine gl (some 12) Tryz.func77 #[.string (⟨#[101,116,97,111,105,110,115,114,104,108,48,49,50,51,52,53,54,55,56,57,100,99,117,109,102,112,103,119,121,98,118,107,120,106,113,122,58,47,45]⟩:ByteArray),.int .u8 (bt a0 iW)] ?_;(with_reducible refine(strings_IndexByte.calls (⟨#[101,116,97,111,105,110,115,114,104,108,48,49,50,51,52,53,54,55,56,57,100,99,117,109,102,112,103,119,121,98,118,107,120,106,113,122,58,47,45]⟩:ByteArray) (bt a0 iW) a0g _ A6.out).mono ?_);rintro e w' ⟨rfl,⟨nd,rfl⟩⟩;refine⟨_,rfl,?_⟩))
       go_roundg k1
       case measure=>have:=jd.out;omega
       case rel=>exact⟨(wrap64 (iW+1)),zs,H',⟨by have:=jd.out;omega⟩,by repeat(first|exact aT.refl _|apply aT.step)⟩
     ·rw[if_neg c4]at H
      exact absurd H (by simp)
    ·rw[if_neg c3]at H
     exact absurd H (by simp)
   ·skip
    have c2b0:=decide_eq_false c2
    clear c2
    obtain rfl:=Option.some.inj H
    go_wp2
    go_ret
    exact⟨zs,by repeat(first|exact aT.refl _|apply aT.step)⟩
def fK.f(k:Nat)(aY:ByteArray)(aA:ByteArray)(dP:Bool):Option (Bool):=(bB.f k aY).bind fun a0h=>(if a0h=true then((bB.f k aA).bind fun a0i=>(if a0i=true then(some (aY.toList != ([]:List UInt8)))else(some false)))else(some false))
theorem fK.mono:∀a0 a1 a2 k,gM (fK.f k a0 a1 a2) (fK.f (k+1) a0 a1 a2):=by
 intro a0 a1 a2 k
 unfold fK.f
 have m0:=@bB.mono
 exact zm
theorem fK.calls(k:Nat)(aY:ByteArray)(aA:ByteArray)(dP:Bool)(r:Bool)(w:World)(h:fK.f k aY aA dP=some r):
 Calls Tryz.prog 65 #[.agg #[.string aY,.string aA,.bool dP]] w fun e w'=>e= .returned (.bool r)∧Below w.heap.size w w':=by
 have sN:=Tryz.underlying89
 have HB:=ah.mk (Below.refl w.heap.size w)
 have H:((bB.f k aY).bind fun a0h=>(if a0h=true then((bB.f k aA).bind fun a0i=>(if a0i=true then(some (aY.toList != ([]:List UInt8)))else(some false)))else(some false)))=some r:=h
 clear h
 obtain⟨a0h,A2,H⟩:=ob H
 (try dsimp only at H)
 by_cases c3:a0h=true
 ·subst c3
  rw[if_pos rfl]at H
  obtain⟨a0i,A4,H⟩:=ob H
  (try dsimp only at H)
  by_cases c5:a0i=true
  ·subst c5
   rw[if_pos rfl]at H
   obtain rfl:=Option.some.inj H
   go_enter Tryz.func65,Tryz.ntmps65
   go_wp2_with (first|((with_reducible refine gd 1 rfl ?_);refine bx (N:=1) (cs:=#[.string aY,.string aA,.bool dP]) (t:=89) ?_;intro abM hg w6 hbox hb;have Na:=ah.mk (hbox);have Nb:=gw HB hg;have abN:=Nb;replace HB:=ah.mk (ai (zb HB) hb);clear hb hbox hg;obtain⟨yQ,yR,a0j,yS,yT,a0k⟩:=c3 Na)|((with_reducible refine gq 61 rfl ?_);refine gl (some 5) Tryz.func61 #[.string aY] ?_;(with_reducible refine(bB.calls k aY true _ A2.out).mono ?_);rintro e w' ⟨rfl,⟨nd,rfl⟩⟩;refine⟨_,rfl,?_⟩)|(go_at_call 61;(with_reducible refine(bB.calls k aA true _ A4.out).mono ?_);rintro e w' ⟨rfl,⟨nd,rfl⟩⟩))
   go_ret
   exact⟨ze,zb HB⟩
  ·replace c5:=Bool.eq_false_iff.mpr c5
   subst c5
   rw[if_neg (show ¬(false=true) by decide)]at H
   obtain rfl:=Option.some.inj H
   go_enter Tryz.func65,Tryz.ntmps65
   go_wp2_with (first|((with_reducible refine gd 1 rfl ?_);refine bx (N:=1) (cs:=#[.string aY,.string aA,.bool dP]) (t:=89) ?_;intro abM hg w8 hbox hb;have Na:=ah.mk (hbox);have Nb:=gw HB hg;have abN:=Nb;replace HB:=ah.mk (ai (zb HB) hb);clear hb hbox hg;obtain⟨yM,yN,BO,yO,yP,BP⟩:=c3 Na)|((with_reducible refine gq 61 rfl ?_);refine gl (some 5) Tryz.func61 #[.string aY] ?_;(with_reducible refine(bB.calls k aY true _ A2.out).mono ?_);rintro e w' ⟨rfl,⟨nd,rfl⟩⟩;refine⟨_,rfl,?_⟩)|(go_at_call 61;(with_reducible refine(bB.calls k aA false _ A4.out).mono ?_);rintro e w' ⟨rfl,⟨nd,rfl⟩⟩))
   go_ret
   exact⟨ze,zb HB⟩
 ·replace c3:=Bool.eq_false_iff.mpr c3
  subst c3
  rw[if_neg (show ¬(false=true) by decide)]at H
  obtain rfl:=Option.some.inj H
  go_enter Tryz.func65,Tryz.ntmps65
  go_wp2_with (first|((with_reducible refine gd 1 rfl ?_);refine bx (N:=1) (cs:=#[.string aY,.string aA,.bool dP]) (t:=89) ?_;intro abM hg w10 hbox hb;have Na:=ah.mk (hbox);have Nb:=gw HB hg;have abN:=Nb;replace HB:=ah.mk (ai (zb HB) hb);clear hb hbox hg;obtain⟨TL,TM,a4u,TN,TP,a4v⟩:=c3 Na)|((with_reducible refine gq 61 rfl ?_);refine gl (some 5) Tryz.func61 #[.string aY] ?_;(with_reducible refine(bB.calls k aY false _ A2.out).mono ?_);rintro e w' ⟨rfl,⟨nd,rfl⟩⟩;refine⟨_,rfl,?_⟩))
  go_ret
  exact⟨ze,zb HB⟩
def gU.f(k:Nat)(aY:ByteArray)(aA:ByteArray)(dP:Bool):Option (Bool):=(fK.f k aY aA dP).bind fun a0l=>(if a0l=true then(some dP)else(some true))
theorem gU.mono:∀a0 a1 a2 k,gM (gU.f k a0 a1 a2) (gU.f (k+1) a0 a1 a2):=by
 intro a0 a1 a2 k
 unfold gU.f
 have m0:=@fK.mono
 exact zm
theorem gU.calls(k:Nat)(aY:ByteArray)(aA:ByteArray)(dP:Bool)(r:Bool)(w:World)(h:gU.f k aY aA dP=some r):
 Calls Tryz.prog 64 #[.agg #[.string aY,.string aA,.bool dP]] w fun e w'=>e= .returned (.bool r)∧Below w.heap.size w w':=by
 have sN:=Tryz.underlying89
 have HB:=ah.mk (Below.refl w.heap.size w)
 have H:((fK.f k aY aA dP).bind fun a0l=>(if a0l=true then(some dP)else(some true)))=some r:=h
 clear h
 obtain⟨a0l,A2,H⟩:=ob H
 (try dsimp only at H)
 by_cases c3:a0l=true
 ·subst c3
  rw[if_pos rfl]at H
  obtain rfl:=Option.some.inj H
  go_enter Tryz.func64,Tryz.ntmps64
  go_wp2_with (first|((with_reducible refine gd 1 rfl ?_);refine bx (N:=1) (cs:=#[.string aY,.string aA,.bool dP]) (t:=89) ?_;intro akX hg w4 hbox hb;have Dm:=ah.mk (hbox);have a0m:=gw HB hg;have akY:=a0m;replace HB:=ah.mk (ai (zb HB) hb);clear hb hbox hg;obtain⟨aeA,aeB,aCj,aeC,aeD,aCk⟩:=c3 Dm)|((with_reducible refine gq 65 rfl ?_);refine gl (some 4) Tryz.func65 #[.agg #[.string aY,.string aA,.bool dP]] ?_;(with_reducible refine(fK.calls k aY aA dP true _ A2.out).mono ?_);rintro e w6 ⟨rfl,hb⟩;refine⟨_,rfl,?_⟩;replace Dm:=kb Dm hb;replace HB:=ah.mk (ai (zb HB) hb);(try clear hb);obtain⟨yQ,yR,a0j,yS,yT,a0k⟩:=c3 Dm))
  go_ret
  exact⟨ze,zb HB⟩
 ·replace c3:=Bool.eq_false_iff.mpr c3
  subst c3
  rw[if_neg (show ¬(false=true) by decide)]at H
  obtain rfl:=Option.some.inj H
  go_enter Tryz.func64,Tryz.ntmps64
  go_wp2_with (first|((with_reducible refine gd 1 rfl ?_);refine bx (N:=1) (cs:=#[.string aY,.string aA,.bool dP]) (t:=89) ?_;intro akX hg w8 hbox hb;have Dm:=ah.mk (hbox);have a0m:=gw HB hg;have akY:=a0m;replace HB:=ah.mk (ai (zb HB) hb);clear hb hbox hg;obtain⟨yM,yN,BO,yO,yP,BP⟩:=c3 Dm)|((with_reducible refine gq 65 rfl ?_);refine gl (some 4) Tryz.func65 #[.agg #[.string aY,.string aA,.bool dP]] ?_;(with_reducible refine(fK.calls k aY aA dP false _ A2.out).mono ?_);rintro e w10 ⟨rfl,hb⟩;refine⟨_,rfl,?_⟩;replace Dm:=kb Dm hb;replace HB:=ah.mk (ai (zb HB) hb);(try clear hb)))
  go_ret
  exact⟨ze,zb HB⟩
def iE.f(k:Nat)(aY:ByteArray)(aA:ByteArray)(dP:Bool):Option (Bool):=(fK.f k aY aA dP).bind fun a0n=>(some (!a0n))
theorem iE.mono:∀a0 a1 a2 k,gM (iE.f k a0 a1 a2) (iE.f (k+1) a0 a1 a2):=by
 intro a0 a1 a2 k
 unfold iE.f
 have m0:=@fK.mono
 exact zm
theorem iE.calls(k:Nat)(aY:ByteArray)(aA:ByteArray)(dP:Bool)(r:Bool)(w:World)(h:iE.f k aY aA dP=some r):
 Calls Tryz.prog 76 #[.agg #[.string aY,.string aA,.bool dP]] w fun e w'=>e= .returned (.bool r)∧Below w.heap.size w w':=by
 have sN:=Tryz.underlying89
 have HB:=ah.mk (Below.refl w.heap.size w)
 have H:((fK.f k aY aA dP).bind fun a0n=>(some (!a0n)))=some r:=h
 clear h
 obtain⟨a0n,A2,H⟩:=ob H
 (try dsimp only at H)
 obtain rfl:=Option.some.inj H
 go_enter Tryz.func76,Tryz.ntmps76
 go_wp2_with (first|((with_reducible refine gd 1 rfl ?_);refine bx (N:=1) (cs:=#[.string aY,.string aA,.bool dP]) (t:=89) ?_;intro aLG hg w3 hbox hb;have a0o:=ah.mk (hbox);have akZ:=gw HB hg;have aLH:=akZ;replace HB:=ah.mk (ai (zb HB) hb);clear hb hbox hg;obtain⟨qK,qL,uL,uM,qM,uN⟩:=c3 a0o)|((with_reducible refine gq 65 rfl ?_);refine gl (some 4) Tryz.func65 #[.agg #[.string aY,.string aA,.bool dP]] ?_;(with_reducible refine(fK.calls k aY aA dP a0n _ A2.out).mono ?_);rintro e w5 ⟨rfl,hb⟩;refine⟨_,rfl,?_⟩;replace a0o:=kb a0o hb;replace HB:=ah.mk (ai (zb HB) hb);(try clear hb)))
 go_ret
 exact⟨ze,zb HB⟩
def idxFrom(p:bf→Option Bool):List (bf)→Int→Option Int
 |[],_=>some (-1)
 |x::l,i=>(p x).bind fun b=>if b then some i else idxFrom p l (i+1)
def R8(P:Program)(g:Nat)(lb:Array Value)(p:bf→Option Bool)(w:World):Prop:=
 ∀(W:World)(x:bf)(b:Bool),Below w.heap.size w W→p x=some b→Calls P g (#[.agg #[.string x.f0,.string x.f1,.bool x.f2]]++lb) W fun e w'=>e= .returned (.bool b)∧Below w.heap.size w w'
theorem DW(g:Nat)(lb:Array Value)(p:bf→Option Bool)(eg:∀args w,(callFunc g args).run Tryz.prog w= .ok (.enter g args) w)(A0:Option Addr)(c0:Nat)(l0:List (bf))(r:Int)(w:World)(hr0:Kd.C iH w A0 l0.length l0)(hc0:l0.length≤c0)
 (hp:R8 Tryz.prog g lb p w)(h:idxFrom p l0 0=some r)(hl:l0.length≤1000000000):
 Calls Tryz.prog 78 #[.slice A0 l0.length c0,.func (.func g) #[] lb] w fun e w'=>e= .returned (.int .i64 r)∧Below w.heap.size w w':=by
 have En:=ah.mk hr0
 have HP:=ah.mk hp
 have H:=ah.mk h
 clear hr0 hp h
 go_enter Tryz.func78,Tryz.ntmps78
 go_wp2
 go_loopg [5,8] (l0.length) (fun kq v5 v8 w'=>∃i:Nat,v8= .int .i64 i∧ah (kq+i=l0.length)∧ah (idxFrom p (l0.drop i) i=some r)∧ah (Below w.heap.size w w'))
 case atStart=>exact⟨0,rfl,⟨by omega⟩,⟨by simpa using H.out⟩,⟨Below.refl _ _⟩⟩
 case round=>
  obtain⟨i,rfl,HK,HX,HB⟩:=hrel
  have hk:=HK.out
  by_cases hj:i<l0.length
  ·have h0:(0:Int)≤(i:Int):=by omega
   have h1:(i:Int)<(l0.length:Int):=by omega
   obtain⟨x,hx⟩:∃x,l0[i]?=some x:=⟨_,List.getElem?_eq_getElem hj⟩
   have hdrop:l0.drop i=x::l0.drop (i+1):=by
    rw[List.drop_eq_getElem_cons hj]
    rw[List.getElem?_eq_getElem hj]at hx
    rw[Option.some.inj hx]
   obtain⟨_,_,hrd⟩:=Kd.C_below En.out HB.out
   obtain⟨ad,e1,hcell⟩:=hrd (by omega)
   obtain⟨c,hc1,hc2,hc3⟩:=hcell i x hx
   have hc4:=MU hc2
   subst hc4
   subst e1
   have q0:wr.cell? (ad.add (i*3))=some (.string x.f0):=by have h9:=hc3 0 _ rfl;exact h9
   have q1:wr.cell? ⟨(ad.add (i*3)).block,(ad.add (i*3)).off+1,none⟩=some (.string x.f1):=by have h9:=hc3 1 _ rfl;rw[←Go.Addr.add_add]at h9;exact h9
   have q2:wr.cell? ⟨(ad.add (i*3)).block,(ad.add (i*3)).off+2,none⟩=some (.bool x.f2):=by have h9:=hc3 2 _ rfl;rw[←Go.Addr.add_add]at h9;exact h9
   have hX:=HX.out
   rw[hdrop,idxFrom]at hX
   obtain⟨b,hb1,hb2⟩:=Option.bind_eq_some_iff.1 hX
   have hcall:=HP.out wr x b HB.out hb1
   have HX2:=ah.mk hb2
   cases gk with
   |zero=>omega
   |succ k1=>
   clear hk hX hb2 hrd hcell hc1 hc2 hc3 hdrop
   cases b with
   |true=>
    go_wp2_with (go_at_fn g;refine hcall.mono ?_;rintro e w' ⟨rfl,hb'⟩)
    go_ret
    have h9:some (i:Int)=some r:=by simpa using HX2.out
    exact⟨by rw[←Option.some.inj h9];rfl,hb'⟩
   |false=>
    go_wp2_with (go_at_fn g;refine hcall.mono ?_;rintro e w' ⟨rfl,hb'⟩)
    go_roundg k1
    case measure=>have:=HK.out;omega
    case rel=>
     refine⟨i+1,by go_num,⟨by have:=HK.out;omega⟩,⟨?_⟩,⟨hb'⟩⟩
     have h9:=HX2.out
     rw[if_neg (by decide)]at h9
     rw[show((i+1:Nat):Int)=(i:Int)+1 by omega]
     exact h9
  ·have e:i=l0.length:=by omega
   have hltz:¬(i:Int)<(l0.length:Int):=by omega
   clear hk hj
   have HE:=ah.mk e
   clear e
   go_wp2
   go_ret
   have e:=HE.out
   subst e
   have hX:=HX.out
   rw[List.drop_length,idxFrom]at hX
   exact⟨by rw[←Option.some.inj hX];rfl,HB.out⟩
theorem yU(g:Nat)(lb:Array Value)(p:bf→Option Bool)(eg:∀args w,(callFunc g args).run Tryz.prog w= .ok (.enter g args) w)(A0:Option Addr)(c0:Nat)(l0:List (bf))(r:Int)(w:World)(hr0:Kd.C iH w A0 l0.length l0)(hc0:l0.length≤c0)
 (hp:R8 Tryz.prog g lb p w)(h:idxFrom p l0 0=some r)(hl:l0.length≤1000000000):
 Calls Tryz.prog 63 #[.slice A0 l0.length c0,.func (.func g) #[] lb] w fun e w'=>e= .returned (.bool (decide (0≤r)))∧Below w.heap.size w w':=by
 go_enter Tryz.func63,Tryz.ntmps63
 go_wp2_with (go_at_call 78;refine(DW g lb p eg A0 c0 l0 r _ hr0 hc0 hp h hl).mono ?_;rintro e w' ⟨rfl,hb'⟩)
 go_ret
 exact⟨rfl,hb'⟩
def aC.p(k:Nat)(g:Nat)(x:bf):Option Bool:=if g=64 then gU.f k x.f0 x.f1 x.f2 else if g=76 then iE.f k x.f0 x.f1 x.f2 else none
def aC.known(g:Nat):Prop:=g=64∨g=76∨False
instance(g:Nat):Decidable (aC.known g):=by unfold aC.known;infer_instance
def aC.f(k:Nat)(l0:List (bf))(a1:Nat):Option Bool:=
 if l0.length≤1000000000∧aC.known a1 then(idxFrom (aC.p k a1) l0 0).bind fun r=>some (decide (0≤r))else none
theorem Aa{p q:bf→Option Bool}(hpq:∀x,gM (p x) (q x)):∀(l:List (bf))(i:Int),gM (idxFrom p l i) (idxFrom q l i)
 |[],_=>fun r h=>h
 |x::l,i=>by
  intro r h
  unfold idxFrom at h ⊢
  obtain⟨b,hb,hr⟩:=Option.bind_eq_some_iff.1 h
  rw[hpq x b hb]
  simp only[Option.bind_some]
  cases b with
  |true=>exact hr
  |false=>exact Aa hpq l (i+1) r hr
theorem aC.p_mono(k g:Nat)(x:bf):gM (aC.p k g x) (aC.p (k+1) g x):=by
 unfold aC.p
 refine gM.ite (gU.mono _ _ _ _) ?_
 refine gM.ite (iE.mono _ _ _ _) ?_
 exact gM.refl _
theorem aC.mono:∀a0 a1 k,gM (aC.f k a0 a1) (aC.f (k+1) a0 a1):=by
 intro a0 a1 k
 unfold aC.f
 refine gM.ite ?_ (gM.refl _)
 exact gM.bind (Aa (fun x=>aC.p_mono k a1 x) a0 0) (fun _=>gM.refl _)
theorem aC.enters(a1:Nat)(h:aC.known a1):∀args w,(callFunc a1 args).run Tryz.prog w= .ok (.enter a1 args) w:=by
 unfold aC.known at h
 rcases h with e|h
 ·subst e;exact enters_of Tryz.func64 (by kernel_rfl) rfl
 rcases h with e|h
 ·subst e;exact enters_of Tryz.func76 (by kernel_rfl) rfl
 cases h
theorem aC.pred(k a1:Nat)(w:World):R8 Tryz.prog a1 #[] (aC.p k a1) w:=by
 intro W x b hW h
 unfold aC.p at h
 split at h
 ·rename_i e;subst e;rw[Array.append_empty];exact(gU.calls k x.f0 x.f1 x.f2 b W h).mono fun e w2 h2=>⟨h2.1,ai hW h2.2⟩
 split at h
 ·rename_i e;subst e;rw[Array.append_empty];exact(iE.calls k x.f0 x.f1 x.f2 b W h).mono fun e w2 h2=>⟨h2.1,ai hW h2.2⟩
 cases h
theorem aC.calls(k:Nat)(A0:Option Addr)(c0:Nat)(l0:List (bf))(a1:Nat)(r:Bool)(w:World)(hr0:Kd.C iH w A0 l0.length l0)(hc0:l0.length≤c0)(h:aC.f k l0 a1=some r):
 Calls Tryz.prog 63 #[.slice A0 l0.length c0,.func (.func a1) #[] #[]] w fun e w'=>e= .returned (.bool r)∧Below w.heap.size w w':=by
 unfold aC.f at h
 split at h
 case isFalse=>cases h
 rename_i hl
 obtain⟨i,hi,hr⟩:=Option.bind_eq_some_iff.1 h
 obtain rfl:=Option.some.inj hr
 exact yU a1 #[] _ (aC.enters a1 hl.2) A0 c0 _ i w hr0 hc0 (aC.pred k a1 w) hi hl.1
def eD.f(k:Nat)(l0:List (bf)):Option (Bool):=if(l0.length:Int)≤6 then((aC.f k l0 76).bind fun a0p=>(some (!a0p)))else(some false)
theorem eD.mono:∀a0 k,gM (eD.f k a0) (eD.f (k+1) a0):=by
 intro a0 k
 unfold eD.f
 have m0:=@aC.mono
 exact zm
theorem eD.calls(k:Nat)(A0:Option Addr)(c0:Nat)(l0:List (bf))(r:Bool)(w:World)(hr0:Kd.C iH w A0 l0.length l0)(hc0:l0.length≤c0)(h:eD.f k l0=some r):
 Calls Tryz.prog 60 #[.slice A0 l0.length c0] w fun e w'=>e= .returned (.bool r)∧Below w.heap.size w w':=by
 have En:=ah.mk hr0
 have Z7:=ah.mk hc0
 clear hr0 hc0
 have HB:=ah.mk (Below.refl w.heap.size w)
 have H:(if(l0.length:Int)≤6 then((aC.f k l0 76).bind fun a0p=>(some (!a0p)))else(some false))=some r:=h
 clear h
 replace H:=sp H
 rcases H with⟨c2,H⟩|⟨c2,H⟩
 ·skip
  have c2b0:=decide_eq_true c2
  have c2b1:=decide_eq_true (by omega)
  clear c2
  obtain⟨a0p,A3,H⟩:=ob H
  (try dsimp only at H)
  obtain rfl:=Option.some.inj H
  go_enter Tryz.func60,Tryz.ntmps60
  go_wp2_with (first|(go_at_call 63;(with_reducible refine(aC.calls k _ _ l0 76 a0p _ ?aN ?aQ A3.out).mono ?_);(case aN=>exact zc En.out);(case aQ=>exact Z7.out);rintro e w4 ⟨rfl,hb⟩;replace HB:=ah.mk (ai (zb HB) hb);(try clear hb)))
  go_ret
  exact⟨ze,zb HB⟩
 ·skip
  have c2b0:=decide_eq_false c2
  have c2b1:=decide_eq_false (by omega)
  clear c2
  obtain rfl:=Option.some.inj H
  go_enter Tryz.func60,Tryz.ntmps60
  go_wp2
  go_ret
  exact⟨ze,zb HB⟩
def jr.f(k:Nat)(aY:Int)(aA:Int)(jB:List (bf))(cZ:ByteArray)(lT:Bool)(lU:Bool)(lZ:Int)(je:List (bf))(jo:ByteArray)(nI:Bool)(gW:Int)(jf:Int):Option (Bool):=(eZ.f aA 1 3).bind fun a0q=>(if a0q=true then((eD.f k jB).bind fun a0r=>(if a0r=true then((eD.f k je).bind fun a0s=>(if a0s=true then((bB.f k cZ).bind fun a0t=>(if a0t=true then((bB.f k jo).bind fun a0u=>(if a0u=true then((eZ.f lZ 0 (cZ.size:Int)).bind fun a0v=>(if a0v=true then((kS.f gW jf).bind fun a0w=>(some a0w))else(some false)))else(some false)))else(some false)))else(some false)))else(some false)))else(some false))
theorem jr.mono:∀a0 a1 a2 a3 a4 a5 a6 a7 a8 a9 MZ R6 k,gM (jr.f k a0 a1 a2 a3 a4 a5 a6 a7 a8 a9 MZ R6) (jr.f (k+1) a0 a1 a2 a3 a4 a5 a6 a7 a8 a9 MZ R6):=by
 intro a0 a1 a2 a3 a4 a5 a6 a7 a8 a9 MZ R6 k
 unfold jr.f
 have m0:=@eD.mono
 have m1:=@bB.mono
 exact zm
theorem jr.calls(k:Nat)(aY:Int)(aA:Int)(ql:Option Addr)(qm:Nat)(jB:List (bf))(cZ:ByteArray)(lT:Bool)(lU:Bool)(lZ:Int)(tK:Option Addr)(tL:Nat)(je:List (bf))(jo:ByteArray)(nI:Bool)(gW:Int)(jf:Int)(r:Bool)(w:World)(Dk:Kd.C iH w ql jB.length jB)(Dl:jB.length≤qm)(N7:Kd.C iH w tK je.length je)(N8:je.length≤tL)(h:jr.f k aY aA jB cZ lT lU lZ je jo nI gW jf=some r):
 Calls Tryz.prog 36 #[.agg #[.int .i64 aY,.int .i64 aA,.slice ql jB.length qm,.string cZ,.bool lT,.bool lU,.int .i64 lZ,.slice tK je.length tL,.string jo,.bool nI,.int .i64 gW,.int .i64 jf]] w fun e w'=>e= .returned (.bool r)∧Below w.heap.size w w':=by
 have aer:=Tryz.underlying39
 have a4t:=Tryz.underlying28
 have rP:=ah.mk Dk
 have rQ:=ah.mk Dl
 clear Dk Dl
 have vW:=ah.mk N7
 have vX:=ah.mk N8
 clear N7 N8
 have HB:=ah.mk (Below.refl w.heap.size w)
 have H:((eZ.f aA 1 3).bind fun a0q=>(if a0q=true then((eD.f k jB).bind fun a0r=>(if a0r=true then((eD.f k je).bind fun a0s=>(if a0s=true then((bB.f k cZ).bind fun a0t=>(if a0t=true then((bB.f k jo).bind fun a0u=>(if a0u=true then((eZ.f lZ 0 (cZ.size:Int)).bind fun a0v=>(if a0v=true then((kS.f gW jf).bind fun a0w=>(some a0w))else(some false)))else(some false)))else(some false)))else(some false)))else(some false)))else(some false)))=some r:=h
 clear h
 obtain⟨a0q,A2,H⟩:=ob H
 (try dsimp only at H)
 by_cases c3:a0q=true
 ·subst c3
  rw[if_pos rfl]at H
  obtain⟨a0r,A4,H⟩:=ob H
  (try dsimp only at H)
  by_cases c5:a0r=true
  ·subst c5
   rw[if_pos rfl]at H
   obtain⟨a0s,A6,H⟩:=ob H
   (try dsimp only at H)
   by_cases c7:a0s=true
   ·subst c7
    rw[if_pos rfl]at H
    obtain⟨a0t,A8,H⟩:=ob H
    (try dsimp only at H)
    by_cases c9:a0t=true
    ·subst c9
     rw[if_pos rfl]at H
     obtain⟨a0u,Qx,H⟩:=ob H
     (try dsimp only at H)
     by_cases c11:a0u=true
     ·subst c11
      rw[if_pos rfl]at H
      obtain⟨a0v,Xo,H⟩:=ob H
      (try dsimp only at H)
      by_cases c13:a0v=true
      ·subst c13
       rw[if_pos rfl]at H
       obtain⟨a0w,A14,H⟩:=ob H
       (try dsimp only at H)
       obtain rfl:=Option.some.inj H
       go_enter Tryz.func36,Tryz.ntmps36
       go_wp2_with (first|((with_reducible refine gd 1 rfl ?_);(try(refine ay (by rfl) ?_;dsimp only));refine bx (N:=1) (cs:=#[.int .i64 aY,.int .i64 aA,.slice ql jB.length qm,.string cZ,.bool lT,.bool lU,.int .i64 lZ,.slice tK je.length tL,.string jo,.bool nI,.int .i64 gW,.int .i64 jf]) (t:=39) ?_;intro Il hg w15 hbox hb;have gX:=ah.mk (hbox);have tN:=gw HB hg;have Im:=tN;replace HB:=ah.mk (ai (zb HB) hb);clear hb hbox hg;obtain⟨EW,EX,Kj,Kk,a7N,a7O,a7P,a7Q,a7R,a7S,a0x,a0y,EY,EZ,Kl,Km,a7T,a7U,a7V,a7W,a7X,a7Y,a0z,a0A⟩:=c12 gX)|((with_reducible refine gq 43 rfl ?_);refine gl (some 5) Tryz.func43 #[.int .i64 aA,.int .i64 1,.int .i64 3] ?_;(with_reducible refine(eZ.calls aA 1 3 true _ A2.out).mono ?_);rintro e w' ⟨rfl,⟨nd,rfl⟩⟩;refine⟨_,rfl,?_⟩)|(go_at_call 60;(with_reducible refine(eD.calls k _ _ jB true _ ?aN ?aQ A4.out).mono ?_);(case aN=>exact(Kd.C_below rP.out (zb HB)));(case aQ=>exact rQ.out);rintro e w17 ⟨rfl,hb⟩;replace gX:=kb gX hb;replace HB:=ah.mk (ai (zb HB) hb);(try clear hb);obtain⟨TU,TY,a4y,a4z,a4A,a4B,a4C,a4D,a4E,a4F,Ze,Zf,U0,U1,a4G,a4H,a4I,a4J,a4K,a4L,a4M,a4N,Zg,Zh⟩:=c12 gX)|(go_at_call 60;(with_reducible refine(eD.calls k _ _ je true _ ?aN ?aQ A6.out).mono ?_);(case aN=>exact zc (Kd.C_below vW.out HB.out));(case aQ=>exact vX.out);rintro e w19 ⟨rfl,hb⟩;replace gX:=kb gX hb;replace HB:=ah.mk (ai (zb HB) hb);(try clear hb);obtain⟨U2,U3,a4O,a4P,a4Q,a4R,a4S,a4T,a4U,a4V,Zi,Zj,U4,U5,a4W,a4X,a4Y,a4Z,a5a,a5b,a5c,a5d,Zk,Zl⟩:=c12 gX)|(go_at_call 61;(with_reducible refine(bB.calls k cZ true _ A8.out).mono ?_);rintro e w' ⟨rfl,⟨nd,rfl⟩⟩)|(go_at_call 61;(with_reducible refine(bB.calls k jo true _ Qx.out).mono ?_);rintro e w' ⟨rfl,⟨nd,rfl⟩⟩)|(go_at_call 43;(with_reducible refine(eZ.calls lZ 0 (cZ.size:Int) true _ Xo.out).mono ?_);rintro e w' ⟨rfl,⟨nd,rfl⟩⟩)|(go_at_call 41;(with_reducible refine(kS.calls gW jf a0w _ A14.out).mono ?_);rintro e w21 ⟨rfl,hb⟩;replace gX:=kb gX hb;replace HB:=ah.mk (ai (zb HB) hb);(try clear hb)))
       go_ret
       exact⟨ze,zb HB⟩
      ·replace c13:=Bool.eq_false_iff.mpr c13
       subst c13
       rw[if_neg (show ¬(false=true) by decide)]at H
       obtain rfl:=Option.some.inj H
       go_enter Tryz.func36,Tryz.ntmps36
       go_wp2_with (first|((with_reducible refine gd 1 rfl ?_);(try(refine ay (by rfl) ?_;dsimp only));refine bx (N:=1) (cs:=#[.int .i64 aY,.int .i64 aA,.slice ql jB.length qm,.string cZ,.bool lT,.bool lU,.int .i64 lZ,.slice tK je.length tL,.string jo,.bool nI,.int .i64 gW,.int .i64 jf]) (t:=39) ?_;intro Il hg w22 hbox hb;have gX:=ah.mk (hbox);have tN:=gw HB hg;have Im:=tN;replace HB:=ah.mk (ai (zb HB) hb);clear hb hbox hg;obtain⟨KC,KD,UH,atD,atE,atF,atG,atH,atI,atJ,al1,al2,KE,KF,UI,atK,atL,atM,atN,atO,atP,atQ,al3,al4⟩:=c12 gX)|((with_reducible refine gq 43 rfl ?_);refine gl (some 5) Tryz.func43 #[.int .i64 aA,.int .i64 1,.int .i64 3] ?_;(with_reducible refine(eZ.calls aA 1 3 true _ A2.out).mono ?_);rintro e w' ⟨rfl,⟨nd,rfl⟩⟩;refine⟨_,rfl,?_⟩)|(go_at_call 60;(with_reducible refine(eD.calls k _ _ jB true _ ?aN ?aQ A4.out).mono ?_);(case aN=>exact(Kd.C_below rP.out (zb HB)));(case aQ=>exact rQ.out);rintro e w24 ⟨rfl,hb⟩;replace gX:=kb gX hb;replace HB:=ah.mk (ai (zb HB) hb);(try clear hb);obtain⟨Ua,Ub,Uc,Ud,a5g,a5h,a5i,a5j,a5k,a5l,Zm,Zn,Ue,Uf,Ug,Uh,a5m,a5n,a5o,a5p,a5q,a5r,Zo,Zp⟩:=c12 gX)|(go_at_call 60;(with_reducible refine(eD.calls k _ _ je true _ ?aN ?aQ A6.out).mono ?_);(case aN=>exact zc (Kd.C_below vW.out HB.out));(case aQ=>exact vX.out);rintro e w26 ⟨rfl,hb⟩;replace gX:=kb gX hb;replace HB:=ah.mk (ai (zb HB) hb);(try clear hb);obtain⟨JL,JM,JN,JO,a5s,a5t,a5u,a5v,a5w,a5x,Zq,Zr,JP,JQ,JR,JS,a5y,a5z,a5A,a5B,a5C,a5D,Zt,Zu⟩:=c12 gX)|(go_at_call 61;(with_reducible refine(bB.calls k cZ true _ A8.out).mono ?_);rintro e w' ⟨rfl,⟨nd,rfl⟩⟩)|(go_at_call 61;(with_reducible refine(bB.calls k jo true _ Qx.out).mono ?_);rintro e w' ⟨rfl,⟨nd,rfl⟩⟩)|(go_at_call 43;(with_reducible refine(eZ.calls lZ 0 (cZ.size:Int) false _ Xo.out).mono ?_);rintro e w' ⟨rfl,⟨nd,rfl⟩⟩))
       go_ret
       exact⟨ze,zb HB⟩
     ·replace c11:=Bool.eq_false_iff.mpr c11
      subst c11
      rw[if_neg (show ¬(false=true) by decide)]at H
      obtain rfl:=Option.some.inj H
      go_enter Tryz.func36,Tryz.ntmps36
      go_wp2_with (first|((with_reducible refine gd 1 rfl ?_);(try(refine ay (by rfl) ?_;dsimp only));refine bx (N:=1) (cs:=#[.int .i64 aY,.int .i64 aA,.slice ql jB.length qm,.string cZ,.bool lT,.bool lU,.int .i64 lZ,.slice tK je.length tL,.string jo,.bool nI,.int .i64 gW,.int .i64 jf]) (t:=39) ?_;intro Il hg Yu hbox hb;have gX:=ah.mk (hbox);have tN:=gw HB hg;have Im:=tN;replace HB:=ah.mk (ai (zb HB) hb);clear hb hbox hg;obtain⟨JU,JV,JW,Ui,a5E,a5F,a5G,a5H,a5I,a5J,Zv,Zw,JX,JY,JZ,Uj,a5K,a5L,a5M,a5N,a5O,a5P,Zx,Zy⟩:=c12 gX)|((with_reducible refine gq 43 rfl ?_);refine gl (some 5) Tryz.func43 #[.int .i64 aA,.int .i64 1,.int .i64 3] ?_;(with_reducible refine(eZ.calls aA 1 3 true _ A2.out).mono ?_);rintro e w' ⟨rfl,⟨nd,rfl⟩⟩;refine⟨_,rfl,?_⟩)|(go_at_call 60;(with_reducible refine(eD.calls k _ _ jB true _ ?aN ?aQ A4.out).mono ?_);(case aN=>exact(Kd.C_below rP.out (zb HB)));(case aQ=>exact rQ.out);rintro e w30 ⟨rfl,hb⟩;replace gX:=kb gX hb;replace HB:=ah.mk (ai (zb HB) hb);(try clear hb);obtain⟨Eo,Ep,Er,Uk,a5Q,a5R,a5S,a5T,a5U,a5V,Zz,ZA,Es,Et,Eu,Ul,a5W,a5X,a5Y,a5Z,a6a,a6b,ZB,ZC⟩:=c12 gX)|(go_at_call 60;(with_reducible refine(eD.calls k _ _ je true _ ?aN ?aQ A6.out).mono ?_);(case aN=>exact zc (Kd.C_below vW.out HB.out));(case aQ=>exact vX.out);rintro e w32 ⟨rfl,hb⟩;replace gX:=kb gX hb;replace HB:=ah.mk (ai (zb HB) hb);(try clear hb);obtain⟨zG,zH,zI,K3,a6c,a6d,a6e,a6f,a6g,a6h,ZE,ZF,zJ,zK,zL,K4,a6i,a6j,a6k,a6l,a6m,a6n,ZG,ZH⟩:=c12 gX)|(go_at_call 61;(with_reducible refine(bB.calls k cZ true _ A8.out).mono ?_);rintro e w' ⟨rfl,⟨nd,rfl⟩⟩)|(go_at_call 61;(with_reducible refine(bB.calls k jo false _ Qx.out).mono ?_);rintro e w' ⟨rfl,⟨nd,rfl⟩⟩))
      go_ret
      exact⟨ze,zb HB⟩
    ·replace c9:=Bool.eq_false_iff.mpr c9
     subst c9
     rw[if_neg (show ¬(false=true) by decide)]at H
     obtain rfl:=Option.some.inj H
     go_enter Tryz.func36,Tryz.ntmps36
     go_wp2_with (first|((with_reducible refine gd 1 rfl ?_);(try(refine ay (by rfl) ?_;dsimp only));refine bx (N:=1) (cs:=#[.int .i64 aY,.int .i64 aA,.slice ql jB.length qm,.string cZ,.bool lT,.bool lU,.int .i64 lZ,.slice tK je.length tL,.string jo,.bool nI,.int .i64 gW,.int .i64 jf]) (t:=39) ?_;intro Il hg Mw hbox hb;have gX:=ah.mk (hbox);have tN:=gw HB hg;have Im:=tN;replace HB:=ah.mk (ai (zb HB) hb);clear hb hbox hg;obtain⟨K5,K6,Um,a6o,a6p,a6q,a6r,a6s,a6t,a6u,ZI,ZJ,K7,K8,Un,a6v,a6w,a6x,a6y,a6z,a6A,a6B,ZK,ZL⟩:=c12 gX)|((with_reducible refine gq 43 rfl ?_);refine gl (some 5) Tryz.func43 #[.int .i64 aA,.int .i64 1,.int .i64 3] ?_;(with_reducible refine(eZ.calls aA 1 3 true _ A2.out).mono ?_);rintro e w' ⟨rfl,⟨nd,rfl⟩⟩;refine⟨_,rfl,?_⟩)|(go_at_call 60;(with_reducible refine(eD.calls k _ _ jB true _ ?aN ?aQ A4.out).mono ?_);(case aN=>exact(Kd.C_below rP.out (zb HB)));(case aQ=>exact rQ.out);rintro e w36 ⟨rfl,hb⟩;replace gX:=kb gX hb;replace HB:=ah.mk (ai (zb HB) hb);(try clear hb);obtain⟨Ew,Ey,K9,Ka,a6C,a6D,a6E,a6F,a6G,a6H,ZM,ZN,Ez,EA,Kb,Ke,a6I,a6J,a6K,a6L,a6M,a6N,ZO,ZP⟩:=c12 gX)|(go_at_call 60;(with_reducible refine(eD.calls k _ _ je true _ ?aN ?aQ A6.out).mono ?_);(case aN=>exact zc (Kd.C_below vW.out HB.out));(case aQ=>exact vX.out);rintro e w38 ⟨rfl,hb⟩;replace gX:=kb gX hb;replace HB:=ah.mk (ai (zb HB) hb);(try clear hb);obtain⟨EB,EC,EF,Uo,a6O,a6P,a6Q,a6R,a6S,a6T,ZQ,ZR,EG,EH,EI,Uq,a6U,a6V,a6W,a6X,a6Y,a6Z,ZT,ZU⟩:=c12 gX)|(go_at_call 61;(with_reducible refine(bB.calls k cZ false _ A8.out).mono ?_);rintro e w' ⟨rfl,⟨nd,rfl⟩⟩))
     go_ret
     exact⟨ze,zb HB⟩
   ·replace c7:=Bool.eq_false_iff.mpr c7
    subst c7
    rw[if_neg (show ¬(false=true) by decide)]at H
    obtain rfl:=Option.some.inj H
    go_enter Tryz.func36,Tryz.ntmps36
    go_wp2_with (first|((with_reducible refine gd 1 rfl ?_);(try(refine ay (by rfl) ?_;dsimp only));refine bx (N:=1) (cs:=#[.int .i64 aY,.int .i64 aA,.slice ql jB.length qm,.string cZ,.bool lT,.bool lU,.int .i64 lZ,.slice tK je.length tL,.string jo,.bool nI,.int .i64 gW,.int .i64 jf]) (t:=39) ?_;intro Il hg w40 hbox hb;have gX:=ah.mk (hbox);have tN:=gw HB hg;have Im:=tN;replace HB:=ah.mk (ai (zb HB) hb);clear hb hbox hg;obtain⟨EJ,EK,EL,Kg,a7a,a7b,a7c,a7d,a7e,a7f,ZV,ZW,EM,EN,EO,Kh,a7g,a7h,a7i,a7j,a7k,a7l,ZX,ZY⟩:=c12 gX)|((with_reducible refine gq 43 rfl ?_);refine gl (some 5) Tryz.func43 #[.int .i64 aA,.int .i64 1,.int .i64 3] ?_;(with_reducible refine(eZ.calls aA 1 3 true _ A2.out).mono ?_);rintro e w' ⟨rfl,⟨nd,rfl⟩⟩;refine⟨_,rfl,?_⟩)|(go_at_call 60;(with_reducible refine(eD.calls k _ _ jB true _ ?aN ?aQ A4.out).mono ?_);(case aN=>exact(Kd.C_below rP.out (zb HB)));(case aQ=>exact rQ.out);rintro e w42 ⟨rfl,hb⟩;replace gX:=kb gX hb;replace HB:=ah.mk (ai (zb HB) hb);(try clear hb);obtain⟨Ur,Us,Ut,Uu,a7m,a7n,a7o,a7p,a7q,a7r,a00,a01,Uv,Uw,Ux,Uy,a7s,a7t,a7u,a7v,a7w,a7x,a02,a03⟩:=c12 gX)|(go_at_call 60;(with_reducible refine(eD.calls k _ _ je false _ ?aN ?aQ A6.out).mono ?_);(case aN=>exact zc (Kd.C_below vW.out HB.out));(case aQ=>exact vX.out);rintro e w44 ⟨rfl,hb⟩;replace gX:=kb gX hb;replace HB:=ah.mk (ai (zb HB) hb);(try clear hb)))
    go_ret
    exact⟨ze,zb HB⟩
  ·replace c5:=Bool.eq_false_iff.mpr c5
   subst c5
   rw[if_neg (show ¬(false=true) by decide)]at H
   obtain rfl:=Option.some.inj H
   go_enter Tryz.func36,Tryz.ntmps36
   go_wp2_with (first|((with_reducible refine gd 1 rfl ?_);(try(refine ay (by rfl) ?_;dsimp only));refine bx (N:=1) (cs:=#[.int .i64 aY,.int .i64 aA,.slice ql jB.length qm,.string cZ,.bool lT,.bool lU,.int .i64 lZ,.slice tK je.length tL,.string jo,.bool nI,.int .i64 gW,.int .i64 jf]) (t:=39) ?_;intro Il hg w45 hbox hb;have gX:=ah.mk (hbox);have tN:=gw HB hg;have Im:=tN;replace HB:=ah.mk (ai (zb HB) hb);clear hb hbox hg;obtain⟨a7Z,a81,a88,atS,atT,atU,atV,atW,atX,atY,al5,al6,a8a,a8b,a8c,atZ,au0,au1,au2,au3,au4,au5,al7,al8⟩:=c12 gX)|((with_reducible refine gq 43 rfl ?_);refine gl (some 5) Tryz.func43 #[.int .i64 aA,.int .i64 1,.int .i64 3] ?_;(with_reducible refine(eZ.calls aA 1 3 true _ A2.out).mono ?_);rintro e w' ⟨rfl,⟨nd,rfl⟩⟩;refine⟨_,rfl,?_⟩)|(go_at_call 60;(with_reducible refine(eD.calls k _ _ jB false _ ?aN ?aQ A4.out).mono ?_);(case aN=>exact(Kd.C_below rP.out (zb HB)));(case aQ=>exact rQ.out);rintro e w47 ⟨rfl,hb⟩;replace gX:=kb gX hb;replace HB:=ah.mk (ai (zb HB) hb);(try clear hb)))
   go_ret
   exact⟨ze,zb HB⟩
 ·replace c3:=Bool.eq_false_iff.mpr c3
  subst c3
  rw[if_neg (show ¬(false=true) by decide)]at H
  obtain rfl:=Option.some.inj H
  go_enter Tryz.func36,Tryz.ntmps36
  go_wp2_with (first|((with_reducible refine gd 1 rfl ?_);(try(refine ay (by rfl) ?_;dsimp only));refine bx (N:=1) (cs:=#[.int .i64 aY,.int .i64 aA,.slice ql jB.length qm,.string cZ,.bool lT,.bool lU,.int .i64 lZ,.slice tK je.length tL,.string jo,.bool nI,.int .i64 gW,.int .i64 jf]) (t:=39) ?_;intro Il hg w48 hbox hb;have gX:=ah.mk (hbox);have tN:=gw HB hg;have Im:=tN;replace HB:=ah.mk (ai (zb HB) hb);clear hb hbox hg;obtain⟨a8d,a8e,a8f,au6,au7,au8,au9,aua,aub,auc,ala,alb,a8g,a8h,a8i,aud,aue,auf,aug,auh,aui,auj,alc,ald⟩:=c12 gX)|((with_reducible refine gq 43 rfl ?_);refine gl (some 5) Tryz.func43 #[.int .i64 aA,.int .i64 1,.int .i64 3] ?_;(with_reducible refine(eZ.calls aA 1 3 false _ A2.out).mono ?_);rintro e w' ⟨rfl,⟨nd,rfl⟩⟩;refine⟨_,rfl,?_⟩))
  go_ret
  exact⟨ze,zb HB⟩
def jJ.f(aY:Int)(aA:Bool)(dP:Int)(cZ:ByteArray):Option (Bool):=if aY=8 then(if dP=0 then(if aA=true then(some false)else(if(cZ.size:Int)=1 then(if 0<(cZ.size:Int)then((eZ.f (wrap64 (bt cZ 0)) 1 31).bind fun a0B=>(some a0B))else(none))else(some false)))else((gB.f dP).bind fun a0C=>(if a0C=true then(if aA=true then(some false)else(if(cZ.size:Int)=1 then(if 0<(cZ.size:Int)then((eZ.f (wrap64 (bt cZ 0)) 1 31).bind fun a0D=>(some a0D))else(none))else(some false)))else(some false))))else((gB.f dP).bind fun Xq=>(if Xq=true then(if aY=0 then(some (decide ((cZ.size:Int)≤200)))else(if aY=1 then(some (decide ((cZ.size:Int)≤200)))else(if aY=3 then(if cZ.toList=([]:List UInt8)then(some (!aA))else(some false))else(some false))))else(some false)))
theorem jJ.calls(aY:Int)(aA:Bool)(dP:Int)(cZ:ByteArray)(r:Bool)(w:World)(h:jJ.f aY aA dP cZ=some r):
 Calls Tryz.prog 39 #[.agg #[.int .i64 aY,.bool aA,.int .i64 dP,.string cZ]] w fun e w'=>e= .returned (.bool r)∧Below w.heap.size w w':=by
 have Xp:=Tryz.underlying42
 have HB:=ah.mk (Below.refl w.heap.size w)
 have H:(if aY=8 then(if dP=0 then(if aA=true then(some false)else(if(cZ.size:Int)=1 then(if 0<(cZ.size:Int)then((eZ.f (wrap64 (bt cZ 0)) 1 31).bind fun a0B=>(some a0B))else(none))else(some false)))else((gB.f dP).bind fun a0C=>(if a0C=true then(if aA=true then(some false)else(if(cZ.size:Int)=1 then(if 0<(cZ.size:Int)then((eZ.f (wrap64 (bt cZ 0)) 1 31).bind fun a0D=>(some a0D))else(none))else(some false)))else(some false))))else((gB.f dP).bind fun Xq=>(if Xq=true then(if aY=0 then(some (decide ((cZ.size:Int)≤200)))else(if aY=1 then(some (decide ((cZ.size:Int)≤200)))else(if aY=3 then(if cZ.toList=([]:List UInt8)then(some (!aA))else(some false))else(some false))))else(some false))))=some r:=h
 clear h
 replace H:=sp H
 rcases H with⟨c2,H⟩|⟨c2,H⟩
 ·skip
  have c2b0:(aY==8)=true:=beq_iff_eq.mpr c2
  have c2b1:(aY != 8)=false:=bne_eq_false_iff_eq.mpr c2
  clear c2
  by_cases c3:dP=0
  ·rw[if_pos c3]at H
   have c3b0:(dP==0)=true:=beq_iff_eq.mpr c3
   have c3b1:(dP != 0)=false:=bne_eq_false_iff_eq.mpr c3
   clear c3
   by_cases c4:aA=true
   ·subst c4
    rw[if_pos rfl]at H
    obtain rfl:=Option.some.inj H
    go_enter Tryz.func39,Tryz.ntmps39
    go_wp2_with (first|((with_reducible refine gd 1 rfl ?_);(try(refine ay (by rfl) ?_;dsimp only));refine bx (N:=1) (cs:=#[.int .i64 aY,.bool true,.int .i64 dP,.string cZ]) (t:=42) ?_;intro FV hg w5 hbox hb;have nK:=ah.mk (hbox);have qN:=gw HB hg;have FW:=qN;replace HB:=ah.mk (ai (zb HB) hb);clear hb hbox hg;obtain⟨FN,FO,aem,aCl,R5,FP,aen,aCm⟩:=c4 nK))
    go_ret
    exact⟨ze,zb HB⟩
   ·replace c4:=Bool.eq_false_iff.mpr c4
    subst c4
    rw[if_neg (show ¬(false=true) by decide)]at H
    by_cases c7:(cZ.size:Int)=1
    ·rw[if_pos c7]at H
     have c7b0:((cZ.size:Int)==1)=true:=beq_iff_eq.mpr c7
     have c7b1:((cZ.size:Int) != 1)=false:=bne_eq_false_iff_eq.mpr c7
     clear c7
     by_cases c8:0<(cZ.size:Int)
     ·rw[if_pos c8]at H
      have c8b0:=decide_eq_true c8
      have c8b1:=decide_eq_true (by omega)
      clear c8
      obtain⟨a0B,Qx,H⟩:=ob H
      (try dsimp only at H)
      obtain rfl:=Option.some.inj H
      go_enter Tryz.func39,Tryz.ntmps39
      go_wp2_with (first|((with_reducible refine gd 1 rfl ?_);(try(refine ay (by rfl) ?_;dsimp only));refine bx (N:=1) (cs:=#[.int .i64 aY,.bool false,.int .i64 dP,.string cZ]) (t:=42) ?_;intro FV hg w11 hbox hb;have nK:=ah.mk (hbox);have qN:=gw HB hg;have FW:=qN;replace HB:=ah.mk (ai (zb HB) hb);clear hb hbox hg;obtain⟨UJ,UK,auk,aul,a8j,UL,aum,aun⟩:=c4 nK;have p9:0≤(0:Int):=(by omega);have q9:0<cZ.size:=(by have:(0:Int)<(cZ.size:Int):=of_decide_eq_true za;omega);have hx9:∀h:0<cZ.size,((cZ[0]'h).toNat:Int)=bt cZ 0:=fF cZ 0;clear p9;have qi9:(0<(cZ.size:Int))=True:=eq_true (of_decide_eq_true za);replace q9:=eq_true q9)|(go_at_call 43;(with_reducible refine(eZ.calls (wrap64 (bt cZ 0)) 1 31 a0B _ Qx.out).mono ?_);rintro e w' ⟨rfl,⟨nd,rfl⟩⟩))
      go_ret
      exact⟨ze,zb HB⟩
     ·rw[if_neg c8]at H
      exact absurd H (by simp)
    ·rw[if_neg c7]at H
     have c7b0:((cZ.size:Int)==1)=false:=beq_eq_false_iff_ne.mpr c7
     have c7b1:((cZ.size:Int) != 1)=true:=bne_iff_ne.mpr c7
     obtain rfl:=Option.some.inj H
     go_enter Tryz.func39,Tryz.ntmps39
     go_wp2_with (first|((with_reducible refine gd 1 rfl ?_);(try(refine ay (by rfl) ?_;dsimp only));refine bx (N:=1) (cs:=#[.int .i64 aY,.bool false,.int .i64 dP,.string cZ]) (t:=42) ?_;intro FV hg w13 hbox hb;have nK:=ah.mk (hbox);have qN:=gw HB hg;have FW:=qN;replace HB:=ah.mk (ai (zb HB) hb);clear hb hbox hg;obtain⟨a8k,a8l,a8m,a8n,a8o,a8p,a8q,a8r⟩:=c4 nK))
     go_ret
     exact⟨ze,zb HB⟩
  ·rw[if_neg c3]at H
   have c3b0:(dP==0)=false:=beq_eq_false_iff_ne.mpr c3
   have c3b1:(dP != 0)=true:=bne_iff_ne.mpr c3
   obtain⟨a0C,Yv,H⟩:=ob H
   (try dsimp only at H)
   by_cases c16:a0C=true
   ·subst c16
    rw[if_pos rfl]at H
    by_cases c17:aA=true
    ·subst c17
     rw[if_pos rfl]at H
     obtain rfl:=Option.some.inj H
     go_enter Tryz.func39,Tryz.ntmps39
     go_wp2_with (first|((with_reducible refine gd 1 rfl ?_);(try(refine ay (by rfl) ?_;dsimp only));refine bx (N:=1) (cs:=#[.int .i64 aY,.bool true,.int .i64 dP,.string cZ]) (t:=42) ?_;intro FV hg UM hbox hb;have nK:=ah.mk (hbox);have qN:=gw HB hg;have FW:=qN;replace HB:=ah.mk (ai (zb HB) hb);clear hb hbox hg;obtain⟨UN,UO,UQ,auo,UR,UU,UW,aup⟩:=c4 nK)|(go_at_call 35;(with_reducible refine(gB.calls dP true _ Yv.out).mono ?_);rintro e w' ⟨rfl,⟨nd,rfl⟩⟩))
     go_ret
     exact⟨ze,zb HB⟩
    ·replace c17:=Bool.eq_false_iff.mpr c17
     subst c17
     rw[if_neg (show ¬(false=true) by decide)]at H
     by_cases c20:(cZ.size:Int)=1
     ·rw[if_pos c20]at H
      have c20b0:((cZ.size:Int)==1)=true:=beq_iff_eq.mpr c20
      have c20b1:((cZ.size:Int) != 1)=false:=bne_eq_false_iff_eq.mpr c20
      clear c20
      by_cases c21:0<(cZ.size:Int)
      ·rw[if_pos c21]at H
       have c21b0:=decide_eq_true c21
       have c21b1:=decide_eq_true (by omega)
       clear c21
       obtain⟨a0D,A23,H⟩:=ob H
       (try dsimp only at H)
       obtain rfl:=Option.some.inj H
       go_enter Tryz.func39,Tryz.ntmps39
       go_wp2_with (first|((with_reducible refine gd 1 rfl ?_);(try(refine ay (by rfl) ?_;dsimp only));refine bx (N:=1) (cs:=#[.int .i64 aY,.bool false,.int .i64 dP,.string cZ]) (t:=42) ?_;intro FV hg w24 hbox hb;have nK:=ah.mk (hbox);have qN:=gw HB hg;have FW:=qN;replace HB:=ah.mk (ai (zb HB) hb);clear hb hbox hg;obtain⟨Ua,Ub,Uc,Ud,Ue,Uf,Ug,Uh⟩:=c4 nK)|(go_at_call 35;(with_reducible refine(gB.calls dP true _ Yv.out).mono ?_);rintro e w' ⟨rfl,⟨nd,rfl⟩⟩;have p22:0≤(0:Int):=(by omega);have q22:0<cZ.size:=(by have:(0:Int)<(cZ.size:Int):=of_decide_eq_true za;omega);have aCq:∀h:0<cZ.size,((cZ[0]'h).toNat:Int)=bt cZ 0:=fF cZ 0;clear p22;have aCr:(0<(cZ.size:Int))=True:=eq_true (of_decide_eq_true za);replace q22:=eq_true q22)|(go_at_call 43;(with_reducible refine(eZ.calls (wrap64 (bt cZ 0)) 1 31 a0D _ A23.out).mono ?_);rintro e w' ⟨rfl,⟨nd,rfl⟩⟩))
       go_ret
       exact⟨ze,zb HB⟩
      ·rw[if_neg c21]at H
       exact absurd H (by simp)
     ·rw[if_neg c20]at H
      have c20b0:((cZ.size:Int)==1)=false:=beq_eq_false_iff_ne.mpr c20
      have c20b1:((cZ.size:Int) != 1)=true:=bne_iff_ne.mpr c20
      obtain rfl:=Option.some.inj H
      go_enter Tryz.func39,Tryz.ntmps39
      go_wp2_with (first|((with_reducible refine gd 1 rfl ?_);(try(refine ay (by rfl) ?_;dsimp only));refine bx (N:=1) (cs:=#[.int .i64 aY,.bool false,.int .i64 dP,.string cZ]) (t:=42) ?_;intro FV hg w26 hbox hb;have nK:=ah.mk (hbox);have qN:=gw HB hg;have FW:=qN;replace HB:=ah.mk (ai (zb HB) hb);clear hb hbox hg;obtain⟨JL,JM,JN,JO,JP,JQ,JR,JS⟩:=c4 nK)|(go_at_call 35;(with_reducible refine(gB.calls dP true _ Yv.out).mono ?_);rintro e w' ⟨rfl,⟨nd,rfl⟩⟩))
      go_ret
      exact⟨ze,zb HB⟩
   ·replace c16:=Bool.eq_false_iff.mpr c16
    subst c16
    rw[if_neg (show ¬(false=true) by decide)]at H
    obtain rfl:=Option.some.inj H
    go_enter Tryz.func39,Tryz.ntmps39
    go_wp2_with (first|((with_reducible refine gd 1 rfl ?_);(try(refine ay (by rfl) ?_;dsimp only));refine bx (N:=1) (cs:=#[.int .i64 aY,.bool aA,.int .i64 dP,.string cZ]) (t:=42) ?_;intro FV hg Yu hbox hb;have nK:=ah.mk (hbox);have qN:=gw HB hg;have FW:=qN;replace HB:=ah.mk (ai (zb HB) hb);clear hb hbox hg;obtain⟨JU,JV,JW,Ui,JX,JY,JZ,Uj⟩:=c4 nK)|(go_at_call 35;(with_reducible refine(gB.calls dP false _ Yv.out).mono ?_);rintro e w' ⟨rfl,⟨nd,rfl⟩⟩))
    go_ret
    exact⟨ze,zb HB⟩
 ·skip
  have c2b0:(aY==8)=false:=beq_eq_false_iff_ne.mpr c2
  have c2b1:(aY != 8)=true:=bne_iff_ne.mpr c2
  obtain⟨Xq,A30,H⟩:=ob H
  (try dsimp only at H)
  have ale:=ah.mk H
  clear H
  go_enter Tryz.func39,Tryz.ntmps39
  go_upto_if 35 with(first|((with_reducible refine gd 1 rfl ?_);(try(refine ay (by rfl) ?_;dsimp only));refine bx (N:=1) (cs:=#[.int .i64 aY,.bool aA,.int .i64 dP,.string cZ]) (t:=42) ?_;intro FV hg w32 hbox hb;have nK:=ah.mk (hbox);have qN:=gw HB hg;have FW:=qN;replace HB:=ah.mk (ai (zb HB) hb);clear hb hbox hg;obtain⟨zG,zH,zI,K3,zJ,zK,zL,K4⟩:=c4 nK)|((with_reducible refine gq 35 rfl ?_);refine gl (some 34) Tryz.func35 #[.int .i64 dP] ?_;(with_reducible refine(gB.calls dP Xq _ A30.out).mono ?_);rintro e w' ⟨rfl,⟨nd,rfl⟩⟩;refine⟨_,rfl,?_⟩))
  (try simp only[Act.put,s1,s2,s3])
  have H:=ale.out
  clear ale
  by_cases c34:Xq=true
  ·subst c34
   rw[if_pos rfl]at H
   replace H:=sp H
   rcases H with⟨Qy,H⟩|⟨Qy,H⟩
   ·skip
    have c35b0:(aY==0)=true:=beq_iff_eq.mpr Qy
    have c35b1:(aY != 0)=false:=bne_eq_false_iff_eq.mpr Qy
    clear Qy
    (first|rw[c35b0]|rw[c35b1]|rw[c35b2]|(simp only[gI,iB];rw[c35b0])|skip)
    obtain rfl:=Option.some.inj H
    obtain⟨a7E,a7F,a7G,a7H,a7I,a7J,a7K,a7L⟩:=c4 nK
    go_wp2
    go_ret
    exact⟨ze,zb HB⟩
   ·skip
    have c35b0:(aY==0)=false:=beq_eq_false_iff_ne.mpr Qy
    have c35b1:(aY != 0)=true:=bne_iff_ne.mpr Qy
    (first|rw[c35b0]|rw[c35b1]|rw[c35b2]|(simp only[gI,iB];rw[c35b0])|skip)
    replace H:=sp H
    rcases H with⟨c37,H⟩|⟨c37,H⟩
    ·skip
     have c37b0:(aY==1)=true:=beq_iff_eq.mpr c37
     have c37b1:(aY != 1)=false:=bne_eq_false_iff_eq.mpr c37
     clear c37
     obtain rfl:=Option.some.inj H
     obtain⟨zT,zU,zV,Kz,zX,zY,zZ,KA⟩:=c4 nK
     go_wp2
     go_ret
     exact⟨ze,zb HB⟩
    ·skip
     have c37b0:(aY==1)=false:=beq_eq_false_iff_ne.mpr c37
     have c37b1:(aY != 1)=true:=bne_iff_ne.mpr c37
     replace H:=sp H
     rcases H with⟨KG,H⟩|⟨KG,H⟩
     ·skip
      have c39b0:(aY==3)=true:=beq_iff_eq.mpr KG
      have c39b1:(aY != 3)=false:=bne_eq_false_iff_eq.mpr KG
      clear KG
      by_cases c40:cZ.toList=([]:List UInt8)
      ·rw[if_pos c40]at H
       have c40b0:(cZ.toList==([]:List UInt8))=true:=beq_iff_eq.mpr c40
       have c40b1:(cZ.toList != ([]:List UInt8))=false:=bne_eq_false_iff_eq.mpr c40
       clear c40
       obtain rfl:=Option.some.inj H
       obtain⟨EJ,EK,EL,Kg,EM,EN,EO,Kh⟩:=c4 nK
       go_wp2
       go_ret
       exact⟨ze,zb HB⟩
      ·rw[if_neg c40]at H
       have c40b0:(cZ.toList==([]:List UInt8))=false:=beq_eq_false_iff_ne.mpr c40
       have c40b1:(cZ.toList != ([]:List UInt8))=true:=bne_iff_ne.mpr c40
       obtain rfl:=Option.some.inj H
       obtain⟨a8s,a8t,auq,aur,a8u,a8v,aus,aut⟩:=c4 nK
       go_wp2
       go_ret
       exact⟨ze,zb HB⟩
     ·skip
      have c39b0:(aY==3)=false:=beq_eq_false_iff_ne.mpr KG
      have c39b1:(aY != 3)=true:=bne_iff_ne.mpr KG
      obtain rfl:=Option.some.inj H
      obtain⟨Ur,Us,Ut,Uu,Uv,Uw,Ux,Uy⟩:=c4 nK
      go_wp2
      go_ret
      exact⟨ze,zb HB⟩
  ·replace c34:=Bool.eq_false_iff.mpr c34
   subst c34
   rw[if_neg (show ¬(false=true) by decide)]at H
   obtain rfl:=Option.some.inj H
   go_wp2
   go_ret
   exact⟨ze,zb HB⟩
def mM.f(aY:Int)(aA:Bool)(dP:Int)(cZ:ByteArray):Option (Bool):=(jJ.f aY aA dP cZ).bind fun a0E=>(some (!a0E))
theorem mM.calls(aY:Int)(aA:Bool)(dP:Int)(cZ:ByteArray)(r:Bool)(w:World)(h:mM.f aY aA dP cZ=some r):
 Calls Tryz.prog 38 #[.agg #[.int .i64 aY,.bool aA,.int .i64 dP,.string cZ]] w fun e w'=>e= .returned (.bool r)∧Below w.heap.size w w':=by
 have Xp:=Tryz.underlying42
 have HB:=ah.mk (Below.refl w.heap.size w)
 have H:((jJ.f aY aA dP cZ).bind fun a0E=>(some (!a0E)))=some r:=h
 clear h
 obtain⟨a0E,A2,H⟩:=ob H
 (try dsimp only at H)
 obtain rfl:=Option.some.inj H
 go_enter Tryz.func38,Tryz.ntmps38
 go_wp2_with (first|((with_reducible refine gd 1 rfl ?_);refine bx (N:=1) (cs:=#[.int .i64 aY,.bool aA,.int .i64 dP,.string cZ]) (t:=42) ?_;intro aLI hg w3 hbox hb;have a0F:=ah.mk (hbox);have alf:=gw HB hg;have aLJ:=alf;replace HB:=ah.mk (ai (zb HB) hb);clear hb hbox hg;obtain⟨qK,qL,uL,vY,uM,qM,uN,vZ⟩:=c4 a0F)|((with_reducible refine gq 39 rfl ?_);refine gl (some 4) Tryz.func39 #[.agg #[.int .i64 aY,.bool aA,.int .i64 dP,.string cZ]] ?_;(with_reducible refine(jJ.calls aY aA dP cZ a0E _ A2.out).mono ?_);rintro e w5 ⟨rfl,hb⟩;refine⟨_,rfl,?_⟩;replace a0F:=kb a0F hb;replace HB:=ah.mk (ai (zb HB) hb);(try clear hb)))
 go_ret
 exact⟨ze,zb HB⟩
def gH(p:jS→Option Bool):List (jS)→Int→Option Int
 |[],_=>some (-1)
 |x::l,i=>(p x).bind fun b=>if b then some i else gH p l (i+1)
def uO(P:Program)(g:Nat)(lb:Array Value)(p:jS→Option Bool)(w:World):Prop:=
 ∀(W:World)(x:jS)(b:Bool),Below w.heap.size w W→p x=some b→Calls P g (#[.agg #[.int .i64 x.f0,.bool x.f1,.int .i64 x.f2,.string x.f3]]++lb) W fun e w'=>e= .returned (.bool b)∧Below w.heap.size w w'
theorem vL(g:Nat)(lb:Array Value)(p:jS→Option Bool)(eg:∀args w,(callFunc g args).run Tryz.prog w= .ok (.enter g args) w)(A0:Option Addr)(c0:Nat)(l0:List (jS))(r:Int)(w:World)(hr0:Kd.C R4 w A0 l0.length l0)(hc0:l0.length≤c0)
 (hp:uO Tryz.prog g lb p w)(h:gH p l0 0=some r)(hl:l0.length≤1000000000):
 Calls Tryz.prog 62 #[.slice A0 l0.length c0,.func (.func g) #[] lb] w fun e w'=>e= .returned (.int .i64 r)∧Below w.heap.size w w':=by
 have En:=ah.mk hr0
 have HP:=ah.mk hp
 have H:=ah.mk h
 clear hr0 hp h
 go_enter Tryz.func62,Tryz.ntmps62
 go_wp2
 go_loopg [5,8] (l0.length) (fun kq v5 v8 w'=>∃i:Nat,v8= .int .i64 i∧ah (kq+i=l0.length)∧ah (gH p (l0.drop i) i=some r)∧ah (Below w.heap.size w w'))
 case atStart=>exact⟨0,rfl,⟨by omega⟩,⟨by simpa using H.out⟩,⟨Below.refl _ _⟩⟩
 case round=>
  obtain⟨i,rfl,HK,HX,HB⟩:=hrel
  have hk:=HK.out
  by_cases hj:i<l0.length
  ·have h0:(0:Int)≤(i:Int):=by omega
   have h1:(i:Int)<(l0.length:Int):=by omega
   obtain⟨x,hx⟩:∃x,l0[i]?=some x:=⟨_,List.getElem?_eq_getElem hj⟩
   have hdrop:l0.drop i=x::l0.drop (i+1):=by
    rw[List.drop_eq_getElem_cons hj]
    rw[List.getElem?_eq_getElem hj]at hx
    rw[Option.some.inj hx]
   obtain⟨_,_,hrd⟩:=Kd.C_below En.out HB.out
   obtain⟨ad,e1,hcell⟩:=hrd (by omega)
   obtain⟨c,hc1,hc2,hc3⟩:=hcell i x hx
   have hc4:=FM hc2
   subst hc4
   subst e1
   have q0:wr.cell? (ad.add (i*4))=some (.int .i64 x.f0):=by have h9:=hc3 0 _ rfl;exact h9
   have q1:wr.cell? ⟨(ad.add (i*4)).block,(ad.add (i*4)).off+1,none⟩=some (.bool x.f1):=by have h9:=hc3 1 _ rfl;rw[←Go.Addr.add_add]at h9;exact h9
   have q2:wr.cell? ⟨(ad.add (i*4)).block,(ad.add (i*4)).off+2,none⟩=some (.int .i64 x.f2):=by have h9:=hc3 2 _ rfl;rw[←Go.Addr.add_add]at h9;exact h9
   have q3:wr.cell? ⟨(ad.add (i*4)).block,(ad.add (i*4)).off+3,none⟩=some (.string x.f3):=by have h9:=hc3 3 _ rfl;rw[←Go.Addr.add_add]at h9;exact h9
   have hX:=HX.out
   rw[hdrop,gH]at hX
   obtain⟨b,hb1,hb2⟩:=Option.bind_eq_some_iff.1 hX
   have hcall:=HP.out wr x b HB.out hb1
   have HX2:=ah.mk hb2
   cases gk with
   |zero=>omega
   |succ k1=>
   clear hk hX hb2 hrd hcell hc1 hc2 hc3 hdrop
   cases b with
   |true=>
    go_wp2_with (go_at_fn g;refine hcall.mono ?_;rintro e w' ⟨rfl,hb'⟩)
    go_ret
    have h9:some (i:Int)=some r:=by simpa using HX2.out
    exact⟨by rw[←Option.some.inj h9];rfl,hb'⟩
   |false=>
    go_wp2_with (go_at_fn g;refine hcall.mono ?_;rintro e w' ⟨rfl,hb'⟩)
    go_roundg k1
    case measure=>have:=HK.out;omega
    case rel=>
     refine⟨i+1,by go_num,⟨by have:=HK.out;omega⟩,⟨?_⟩,⟨hb'⟩⟩
     have h9:=HX2.out
     rw[if_neg (by decide)]at h9
     rw[show((i+1:Nat):Int)=(i:Int)+1 by omega]
     exact h9
  ·have e:i=l0.length:=by omega
   have hltz:¬(i:Int)<(l0.length:Int):=by omega
   clear hk hj
   have HE:=ah.mk e
   clear e
   go_wp2
   go_ret
   have e:=HE.out
   subst e
   have hX:=HX.out
   rw[List.drop_length,gH]at hX
   exact⟨by rw[←Option.some.inj hX];rfl,HB.out⟩
theorem sO(g:Nat)(lb:Array Value)(p:jS→Option Bool)(eg:∀args w,(callFunc g args).run Tryz.prog w= .ok (.enter g args) w)(A0:Option Addr)(c0:Nat)(l0:List (jS))(r:Int)(w:World)(hr0:Kd.C R4 w A0 l0.length l0)(hc0:l0.length≤c0)
 (hp:uO Tryz.prog g lb p w)(h:gH p l0 0=some r)(hl:l0.length≤1000000000):
 Calls Tryz.prog 37 #[.slice A0 l0.length c0,.func (.func g) #[] lb] w fun e w'=>e= .returned (.bool (decide (0≤r)))∧Below w.heap.size w w':=by
 go_enter Tryz.func37,Tryz.ntmps37
 go_wp2_with (go_at_call 62;refine(vL g lb p eg A0 c0 l0 r _ hr0 hc0 hp h hl).mono ?_;rintro e w' ⟨rfl,hb'⟩)
 go_ret
 exact⟨rfl,hb'⟩
def aG.p(k:Nat)(g:Nat)(x:jS):Option Bool:=if g=38 then mM.f x.f0 x.f1 x.f2 x.f3 else none
def aG.known(g:Nat):Prop:=g=38∨False
instance(g:Nat):Decidable (aG.known g):=by unfold aG.known;infer_instance
def aG.f(k:Nat)(l0:List (jS))(a1:Nat):Option Bool:=
 if l0.length≤1000000000∧aG.known a1 then(gH (aG.p k a1) l0 0).bind fun r=>some (decide (0≤r))else none
theorem qO{p q:jS→Option Bool}(hpq:∀x,gM (p x) (q x)):∀(l:List (jS))(i:Int),gM (gH p l i) (gH q l i)
 |[],_=>fun r h=>h
 |x::l,i=>by
  intro r h
  unfold gH at h ⊢
  obtain⟨b,hb,hr⟩:=Option.bind_eq_some_iff.1 h
  rw[hpq x b hb]
  simp only[Option.bind_some]
  cases b with
  |true=>exact hr
  |false=>exact qO hpq l (i+1) r hr
theorem aG.p_mono(k g:Nat)(x:jS):gM (aG.p k g x) (aG.p (k+1) g x):=by
 unfold aG.p
 refine gM.ite (gM.refl _) ?_
 exact gM.refl _
theorem aG.mono:∀a0 a1 k,gM (aG.f k a0 a1) (aG.f (k+1) a0 a1):=by
 intro a0 a1 k
 unfold aG.f
 refine gM.ite ?_ (gM.refl _)
 exact gM.bind (qO (fun x=>aG.p_mono k a1 x) a0 0) (fun _=>gM.refl _)
theorem aG.enters(a1:Nat)(h:aG.known a1):∀args w,(callFunc a1 args).run Tryz.prog w= .ok (.enter a1 args) w:=by
 unfold aG.known at h
 rcases h with e|h
 ·subst e;exact enters_of Tryz.func38 (by kernel_rfl) rfl
 cases h
theorem aG.pred(k a1:Nat)(w:World):uO Tryz.prog a1 #[] (aG.p k a1) w:=by
 intro W x b hW h
 unfold aG.p at h
 split at h
 ·rename_i e;subst e;rw[Array.append_empty];exact(mM.calls x.f0 x.f1 x.f2 x.f3 b W h).mono fun e w2 h2=>⟨h2.1,ai hW h2.2⟩
 cases h
theorem aG.calls(k:Nat)(A0:Option Addr)(c0:Nat)(l0:List (jS))(a1:Nat)(r:Bool)(w:World)(hr0:Kd.C R4 w A0 l0.length l0)(hc0:l0.length≤c0)(h:aG.f k l0 a1=some r):
 Calls Tryz.prog 37 #[.slice A0 l0.length c0,.func (.func a1) #[] #[]] w fun e w'=>e= .returned (.bool r)∧Below w.heap.size w w':=by
 unfold aG.f at h
 split at h
 case isFalse=>cases h
 rename_i hl
 obtain⟨i,hi,hr⟩:=Option.bind_eq_some_iff.1 h
 obtain rfl:=Option.some.inj hr
 exact sO a1 #[] _ (aG.enters a1 hl.2) A0 c0 _ i w hr0 hc0 (aG.pred k a1 w) hi hl.1
def bP.l0:Nat→Int→List (bf)→Int→Int→Option (Int)
 |0,_,_,_,_=>none
 |k+1,x3,x7,x8,x9=>if x9<x8 then(if 0≤x9 then(if x9<(x7.length:Int)then(bP.l0 k (wrap64 (x3+(wrap64 ((wrap64 ((((aU x7 x9).f0).size:Int)+(((aU x7 x9).f1).size:Int)))+4)))) x7 x8 (wrap64 (x9+1)))else(none))else(none))else(some x3)
def bP.f(k:Nat)(aH:List (bf))(aA:Int):Option (Int):=bP.l0 k 0 aH (aH.length:Int) 0
theorem bP.mono_l:∀k,(∀y0 y1 y2 y3,gM (bP.l0 k y0 y1 y2 y3) (bP.l0 (k+1) y0 y1 y2 y3))
 |0=>fun _ _ _ _ r h=>by simp[bP.l0]at h
 |k+1=>by
  have mW:=bP.mono_l k
  ·intro y0 y1 y2 y3
   unfold bP.l0
   exact zm
theorem bP.mono:∀a0 a1 k,gM (bP.f k a0 a1) (bP.f (k+1) a0 a1):=by
 intro a0 a1 k
 have mW:=bP.mono_l k
 unfold bP.f
 exact zm
theorem bP.calls(k:Nat)(j4:Option Addr)(j5:Nat)(aH:List (bf))(aA:Int)(r:Int)(w:World)(kT:Kd.C iH w j4 aH.length aH)(kU:aH.length≤j5)(h:bP.f k aH aA=some r):
 Calls Tryz.prog 66 #[.agg #[.slice j4 aH.length j5,.int .i64 aA]] w fun e w'=>e= .returned (.int .i64 r)∧Below w.heap.size w w':=by
 have Ab:=Tryz.underlying25
 have sN:=Tryz.underlying89
 have lM:=ah.mk kT
 have pO:=ah.mk kU
 clear kT kU
 have HB:=ah.mk (Below.refl w.heap.size w)
 have H:(bP.l0 k 0 aH (aH.length:Int) 0)=some r:=h
 clear h
 have H':=ah.mk H
 clear H
 go_enter Tryz.func66,Tryz.ntmps66
 go_wp2_with (first|((with_reducible refine gd 1 rfl ?_);refine bx (N:=1) (cs:=#[.slice j4 aH.length j5,.int .i64 aA]) (t:=25) ?_;intro alg hg w2 hbox hb;have FX:=ah.mk (hbox);have alh:=gw HB hg;have aLK:=alh;replace HB:=ah.mk (ai (zb HB) hb);clear hb hbox hg;obtain⟨a06,a07,a08,a09⟩:=c2 FX))
 go_loopg [3,9] k (fun kq v3 v9 w'=>∃(dh:Int)(tO:Int),v3= .int .i64 dh∧v9= .int .i64 tO∧ah (bP.l0 kq dh aH (aH.length:Int) tO=some r)∧ah (kq≤k)∧ah (w'.heap[alg]?=some (.cells #[(.slice j4 aH.length j5),.int .i64 aA] 25 (0,0)))∧ah (Below w.heap.size w w'))
 case atStart=>exact⟨(0),(0),zs,zs,H',⟨Nat.le_refl _⟩,⟨by exact zk FX⟩,⟨zb HB⟩⟩
 case round=>
  clear H'
  try clear p2
  try clear a06
  try clear a07
  try clear a08
  try clear a09
  obtain⟨dh,tO,rfl,rfl,HA,jd,FX,HB⟩:=hrel
  cases gk with
  |zero=>exact absurd HA.out (by simp[bP.l0])
  |succ k1=>
   have H:=HA.out
   clear HA
   simp only[bP.l0]at H
   replace H:=sp H
   rcases H with⟨c4,H⟩|⟨c4,H⟩
   ·skip
    have c4b0:=decide_eq_true c4
    clear c4
    by_cases c5:0≤tO
    ·rw[if_pos c5]at H
     have c5b0:=decide_eq_true c5
     clear c5
     by_cases c6:tO<(aH.length:Int)
     ·rw[if_pos c6]at H
      have c6b0:=decide_eq_true c6
      clear c6
      have H':=ah.mk H
      clear H
      have aeF:0≤(tO:Int):=of_decide_eq_true za
      have aeG:tO<(aH.length:Int):=of_decide_eq_true za
      obtain⟨aLL,aCs,UX,UY,UZ⟩:=eT lM.out tO aeF aeG
      cases aCs
      replace UX:=pX UX HB
      replace UY:=pX UY HB
      replace UZ:=pX UZ HB
      replace aeF:=eq_true aeF
      replace aeG:=eq_true aeG
      go_wp2_with (first|((with_reducible refine gd 5 rfl ?_);refine bx (N:=5) (cs:=#[.string (⟨#[]⟩:ByteArray),.string (⟨#[]⟩:ByteArray),.bool false]) (t:=89) ?_;intro aLM hg w7 hbox hb;have ali:=ah.mk (hbox);have alj:=gw HB hg;have aLN:=alj;replace HB:=ah.mk (ai (zb HB) hb);obtain⟨Xr,Xt⟩:=nb FX hg;replace FX:=kb FX hb;clear hb hbox hg;have alk:=Xt.out;have alm:=Xr.out;obtain⟨yM,yN,BO,yO,yP,BP⟩:=c3 ali))
      go_roundg k1
      case measure=>have:=jd.out;omega
      case rel=>exact⟨(wrap64 (dh+(wrap64 ((wrap64 ((((aU aH tO).f0).size:Int)+(((aU aH tO).f1).size:Int)))+4)))),(wrap64 (tO+1)),zs,zs,H',⟨by have:=jd.out;omega⟩,⟨zp FX⟩,⟨zb HB⟩⟩
     ·rw[if_neg c6]at H
      exact absurd H (by simp)
    ·rw[if_neg c5]at H
     exact absurd H (by simp)
   ·skip
    have c4b0:=decide_eq_false c4
    clear c4
    obtain rfl:=Option.some.inj H
    go_wp2
    go_ret
    exact⟨ze,zb HB⟩
def eu.f(k:Nat)(aH:List (bf))(aA:Int):Option (Bool):=(eZ.f aA 0 64).bind fun a0G=>(if a0G=true then((aC.f k aH 64).bind fun a0H=>(if a0H=true then(some false)else((bP.f k aH aA).bind fun a0I=>(some (decide (a0I≤aA))))))else(some false))
theorem eu.mono:∀a0 a1 k,gM (eu.f k a0 a1) (eu.f (k+1) a0 a1):=by
 intro a0 a1 k
 unfold eu.f
 have m0:=@aC.mono
 have m1:=@bP.mono
 exact zm
def eu.T1:Bool×List (List Nat×List Nat):=(true,[([],[]),([0],[0]),([1],[1]),([2,2],[2]),([3],[3]),([4,3],[3,4]),([5,3,3],[3,5]),([6,3],[3,6]),([3,7],[3,7]),([8,6],[8]),([9],[9]),([10,9,9],[9,10]),([9],[9]),([12,9],[9,12]),([11,13,9],[9,11,13]),([9,14],[9,14]),([15,11,0,1,2,3,4,5,6,7,8,9,10,11,12,13,14,15],[15])])
def eu.B1:List Nat:=[0,1,3,7,15,31,63,127,255,511,1023,2047,1023,5119,16383,32767,65535]
theorem eu.tab1:jG .any (opsOf Tryz.f40 1)=eu.T1:=by kernel_rfl
theorem eu.bits1:fQ eu.T1.2 eu.B1=true:=by kernel_rfl
theorem eu.calls(k:Nat)(j4:Option Addr)(j5:Nat)(aH:List (bf))(aA:Int)(r:Bool)(w:World)(kT:Kd.C iH w j4 aH.length aH)(kU:aH.length≤j5)(h:eu.f k aH aA=some r):
 Calls Tryz.prog 40 #[.agg #[.slice j4 aH.length j5,.int .i64 aA]] w fun e w'=>e= .returned (.bool r)∧Below w.heap.size w w':=by
 have Ab:=Tryz.underlying25
 have lM:=ah.mk kT
 have pO:=ah.mk kU
 clear kT kU
 have HB:=ah.mk (Below.refl w.heap.size w)
 have H:((eZ.f aA 0 64).bind fun a0G=>(if a0G=true then((aC.f k aH 64).bind fun a0H=>(if a0H=true then(some false)else((bP.f k aH aA).bind fun a0I=>(some (decide (a0I≤aA))))))else(some false)))=some r:=h
 clear h
 obtain⟨a0G,A2,H⟩:=ob H
 (try dsimp only at H)
 by_cases c3:a0G=true
 ·subst c3
  rw[if_pos rfl]at H
  obtain⟨a0H,A4,H⟩:=ob H
  (try dsimp only at H)
  by_cases c5:a0H=true
  ·subst c5
   rw[if_pos rfl]at H
   obtain rfl:=Option.some.inj H
   go_enter Tryz.func40,Tryz.ntmps40
   try go_wp2_with (first|((with_reducible refine gd 1 rfl ?_);refine bx (N:=1) (cs:=#[.slice j4 aH.length j5,.int .i64 aA]) (t:=25) ?_;intro abP hg w6 hbox hb;have kV:=ah.mk (hbox);have Nc:=gw HB hg;have abQ:=Nc;replace HB:=ah.mk (ai (zb HB) hb);clear hb hbox hg))
   replace kV:=ah.mk (dw kV.out)
   replace HB:=ah.mk (dF HB.out)
   refine st 17 (b2 kV) (fun hHeld=>?_);refine bK eu.tab1 eu.bits1 (fun HT_ HW_=>?_)
   generalize w6.drew=w7 at kV HB hHeld ⊢
   refine pu 0 (some 3) (bm 17 1) rfl rfl ?_
   refine tk 1 (some 4) (bm 17 3) rfl rfl hHeld ?_
   refine iN (i:=2) (N:=some 5) (bm 17 7) rfl rfl (eG HT_.out (by kernel_rfl)) (by decide) (fun K hK=>?_)
   refine gs Tryz.func43 #[.int .i64 aA,.int .i64 0,.int .i64 64] ?_
   with_reducible refine(eZ.calls aA 0 64 true _ A2.out).mono ?_
   rintro e w' ⟨rfl,⟨nd,rfl⟩⟩
   refine⟨_,rfl,?_⟩
   refine hK.out _ _ (b2 kV) (fun hHeld=>?_)
   clear hK K
   refine nm ?_
   refine pu 3 (some 6) (bm 17 15) rfl rfl ?_
   refine pu 4 (some 7) (bm 17 31) rfl rfl ?_
   refine tk 5 (some 8) (bm 17 63) rfl rfl hHeld ?_
   refine iN (i:=6) (N:=some 9) (bm 17 127) rfl rfl (eG HT_.out (by kernel_rfl)) (by decide) (fun K hK=>?_)
   refine gs Tryz.func63 #[.slice j4 aH.length j5,.func (.func 64) #[] #[]] ?_
   with_reducible refine(aC.calls k _ _ aH 64 true _ ?aN ?aQ A4.out).mono ?_
   (case aN=>exact(Kd.C_below lM.out (zb HB)))
   (case aQ=>exact pO.out)
   rintro e w8 ⟨rfl,hb⟩
   refine⟨_,rfl,?_⟩
   replace kV:=kb kV hb
   replace HB:=ah.mk (ai (zb HB) hb)
   (try clear hb)
   refine hK.out _ _ (b2 kV) (fun hHeld=>?_)
   clear hK K
   refine nm ?_
   refine pu 7 (some 10) (bm 17 255) rfl rfl ?_
   refine pu 8 (some 11) (bm 17 511) rfl rfl ?_
   refine pu 9 (some 12) (bm 17 1023) rfl rfl ?_
   refine pv 10 (some 13) (bm 17 2047) rfl rfl ?_
   refine pv 11 (some 14) (bm 17 4095) rfl rfl ?_
   refine pv 12 (some 15) (bm 17 8191) rfl rfl ?_
   refine pv 13 (some 16) (bm 17 16383) rfl rfl ?_
   refine pv 14 (some 17) (bm 17 32767) rfl rfl ?_
   refine pu 15 (some 18) (bm 17 65535) rfl rfl ?_
   refine pu 16 (some 2) (bm 17 131071) rfl rfl ?_
   refine lq (jC HT_.out (by kernel_rfl)) ?_
   try go_wp2
   go_ret
   exact⟨ze,zb HB⟩
  ·replace c5:=Bool.eq_false_iff.mpr c5
   subst c5
   rw[if_neg (show ¬(false=true) by decide)]at H
   obtain⟨a0I,A9,H⟩:=ob H
   (try dsimp only at H)
   obtain rfl:=Option.some.inj H
   go_enter Tryz.func40,Tryz.ntmps40
   try go_wp2_with (first|((with_reducible refine gd 1 rfl ?_);refine bx (N:=1) (cs:=#[.slice j4 aH.length j5,.int .i64 aA]) (t:=25) ?_;intro abP hg w10 hbox hb;have kV:=ah.mk (hbox);have Nc:=gw HB hg;have abQ:=Nc;replace HB:=ah.mk (ai (zb HB) hb);clear hb hbox hg))
   replace kV:=ah.mk (dw kV.out)
   replace HB:=ah.mk (dF HB.out)
   refine st 17 (b2 kV) (fun hHeld=>?_);refine bK eu.tab1 eu.bits1 (fun HT_ HW_=>?_)
   generalize w10.drew=w11 at kV HB hHeld ⊢
   refine pu 0 (some 3) (bm 17 1) rfl rfl ?_
   refine tk 1 (some 4) (bm 17 3) rfl rfl hHeld ?_
   refine iN (i:=2) (N:=some 5) (bm 17 7) rfl rfl (eG HT_.out (by kernel_rfl)) (by decide) (fun K hK=>?_)
   refine gs Tryz.func43 #[.int .i64 aA,.int .i64 0,.int .i64 64] ?_
   with_reducible refine(eZ.calls aA 0 64 true _ A2.out).mono ?_
   rintro e w' ⟨rfl,⟨nd,rfl⟩⟩
   refine⟨_,rfl,?_⟩
   refine hK.out _ _ (b2 kV) (fun hHeld=>?_)
   clear hK K
   refine nm ?_
   refine pu 3 (some 6) (bm 17 15) rfl rfl ?_
   refine pu 4 (some 7) (bm 17 31) rfl rfl ?_
   refine tk 5 (some 8) (bm 17 63) rfl rfl hHeld ?_
   refine iN (i:=6) (N:=some 9) (bm 17 127) rfl rfl (eG HT_.out (by kernel_rfl)) (by decide) (fun K hK=>?_)
   refine gs Tryz.func63 #[.slice j4 aH.length j5,.func (.func 64) #[] #[]] ?_
   with_reducible refine(aC.calls k _ _ aH 64 false _ ?aN ?aQ A4.out).mono ?_
   (case aN=>exact(Kd.C_below lM.out (zb HB)))
   (case aQ=>exact pO.out)
   rintro e Xu ⟨rfl,hb⟩
   refine⟨_,rfl,?_⟩
   replace kV:=kb kV hb
   replace HB:=ah.mk (ai (zb HB) hb)
   (try clear hb)
   refine hK.out _ _ (b2 kV) (fun hHeld=>?_)
   clear hK K
   refine nm ?_
   refine pu 7 (some 10) (bm 17 255) rfl rfl ?_
   refine pu 8 (some 11) (bm 17 511) rfl rfl ?_
   refine pu 9 (some 12) (bm 17 1023) rfl rfl ?_
   refine pu 12 (some 15) (bm 17 5119) rfl rfl ?_
   refine tk 10 (some 13) (bm 17 6143) rfl rfl hHeld ?_
   refine tk 13 (some 16) (bm 17 14335) rfl rfl hHeld ?_
   refine iN (i:=11) (N:=some 14) (bm 17 16383) rfl rfl (eG HT_.out (by kernel_rfl)) (by decide) (fun K hK=>?_)
   refine gs Tryz.func66 #[.agg #[.slice j4 aH.length j5,.int .i64 aA]] ?_
   with_reducible refine(bP.calls k _ _ aH aA a0I _ ?aN ?aQ A9.out).mono ?_
   (case aN=>exact zc (Kd.C_below lM.out HB.out))
   (case aQ=>exact pO.out)
   rintro e w13 ⟨rfl,hb⟩
   refine⟨_,rfl,?_⟩
   replace kV:=kb kV hb
   replace HB:=ah.mk (ai (zb HB) hb)
   (try clear hb)
   refine hK.out _ _ (b2 kV) (fun hHeld=>?_)
   clear hK K
   refine nm ?_
   refine pu 14 (some 17) (bm 17 32767) rfl rfl ?_
   refine pu 15 (some 18) (bm 17 65535) rfl rfl ?_
   refine pu 16 (some 2) (bm 17 131071) rfl rfl ?_
   refine lq (jC HT_.out (by kernel_rfl)) ?_
   try go_wp2
   go_ret
   exact⟨ze,zb HB⟩
 ·replace c3:=Bool.eq_false_iff.mpr c3
  subst c3
  rw[if_neg (show ¬(false=true) by decide)]at H
  obtain rfl:=Option.some.inj H
  go_enter Tryz.func40,Tryz.ntmps40
  try go_wp2_with (first|((with_reducible refine gd 1 rfl ?_);refine bx (N:=1) (cs:=#[.slice j4 aH.length j5,.int .i64 aA]) (t:=25) ?_;intro abP hg DX hbox hb;have kV:=ah.mk (hbox);have Nc:=gw HB hg;have abQ:=Nc;replace HB:=ah.mk (ai (zb HB) hb);clear hb hbox hg))
  replace kV:=ah.mk (dw kV.out)
  replace HB:=ah.mk (dF HB.out)
  refine st 17 (b2 kV) (fun hHeld=>?_);refine bK eu.tab1 eu.bits1 (fun HT_ HW_=>?_)
  generalize DX.drew=w15 at kV HB hHeld ⊢
  refine pu 0 (some 3) (bm 17 1) rfl rfl ?_
  refine tk 1 (some 4) (bm 17 3) rfl rfl hHeld ?_
  refine iN (i:=2) (N:=some 5) (bm 17 7) rfl rfl (eG HT_.out (by kernel_rfl)) (by decide) (fun K hK=>?_)
  refine gs Tryz.func43 #[.int .i64 aA,.int .i64 0,.int .i64 64] ?_
  with_reducible refine(eZ.calls aA 0 64 false _ A2.out).mono ?_
  rintro e w' ⟨rfl,⟨nd,rfl⟩⟩
  refine⟨_,rfl,?_⟩
  refine hK.out _ _ (b2 kV) (fun hHeld=>?_)
  clear hK K
  refine nm ?_
  refine pu 3 (some 6) (bm 17 15) rfl rfl ?_
  refine pv 4 (some 7) (bm 17 31) rfl rfl ?_
  refine pv 5 (some 8) (bm 17 63) rfl rfl ?_
  refine pv 6 (some 9) (bm 17 127) rfl rfl ?_
  refine pv 7 (some 10) (bm 17 255) rfl rfl ?_
  refine pu 8 (some 11) (bm 17 511) rfl rfl ?_
  refine pu 9 (some 12) (bm 17 1023) rfl rfl ?_
  refine pv 10 (some 13) (bm 17 2047) rfl rfl ?_
  refine pv 11 (some 14) (bm 17 4095) rfl rfl ?_
  refine pv 12 (some 15) (bm 17 8191) rfl rfl ?_
  refine pv 13 (some 16) (bm 17 16383) rfl rfl ?_
  refine pv 14 (some 17) (bm 17 32767) rfl rfl ?_
  refine pu 15 (some 18) (bm 17 65535) rfl rfl ?_
  refine pu 16 (some 2) (bm 17 131071) rfl rfl ?_
  refine lq (jC HT_.out (by kernel_rfl)) ?_
  try go_wp2
  go_ret
  exact⟨ze,zb HB⟩
end Go.Proofs.YtokblgdgpnakpaaGreat.PFnEndLess
