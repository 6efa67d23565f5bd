/- Short words for what the printed walks say over and over: each proves its own goal. No program in sight. -/
import Derived.Test.YtdhahifdcoinhaaWMore
namespace Go.Proofs.Ytdhahifdcoinhaa.Lm
open Go.RowKit Go.Proofs.YtdhahifdcoinhaaW.PrintWords Go.Proofs.YtdhahifdcoinhaaW.PrintLast Go.Proofs.YtdhahifdcoinhaaW.PrintMore
set_option linter.unusedVariables false
/-- W0 with blocks made and orders drawn. -/
inductive Mov : World → World → Prop
  | refl (W : World) : Mov W W
  | alloc {W0 W : World} (h : Mov W0 W) (o : Obj) : Mov W0 (W.alloc o)
  | drew {W0 W : World} (h : Mov W0 W) : Mov W0 W.drew
  | drewN {W0 W : World} (h : Mov W0 W) (m : Nat) : Mov W0 (W.drewN m)
theorem zk {W0 W : World} {g : Nat} {o : Obj} (h0 : Aside0 (W0.heap[g]? = some o)) (m : Mov W0 W := by (with_reducible repeat (first | exact Mov.refl _ | apply Mov.alloc | apply Mov.drewN | apply Mov.drew))) : W.heap[g]? = some o := by
  induction m with
  | refl => exact h0.out
  | alloc _ o ih => exact blk_alloc ih o
  | drew _ ih => exact blk_drew ih
  | drewN _ n ih => exact blk_drewN ih n
theorem zr {α : Type} {d : Kd α} {e base : Nat} {ok : Nat → Prop} {v : Value} {xs : List α} {W0 W : World} (h0 : Aside0 (d.R e W0 base ok v xs)) (m : Mov W0 W := by (with_reducible repeat (first | exact Mov.refl _ | apply Mov.alloc | apply Mov.drewN | apply Mov.drew))) : d.R e W base ok v xs := by
  induction m with
  | refl => exact h0.out
  | alloc _ o ih => exact Kd.R_alloc ih o
  | drew _ ih => exact Kd.R_drew ih
  | drewN _ n ih => exact Kd.R_drewN ih n
theorem zb {n : Nat} {w W0 W : World} (h0 : Aside0 (Below n w W0)) (h : Below n w W := by repeat (first | (with_reducible first | exact HB.out | apply below_alloc | apply pw_below_drewN | apply below_drew1 | refine below_set ?_ (Aside0.out (by assumption))) | exact HB.out)) : Below n w W := h
theorem zh {g : Nat} {r : Option Nat} {w W0 W : World} (h0 : Aside0 (KeepBut w W0 g r)) (h : KeepBut w W g r := by repeat (first | (with_reducible first | exact HK.out | apply KeepBut.set_ | apply keep_drewN | apply keep_drew | apply keep_alloc | refine keep_far ?_ (Aside0.out (by assumption)) _) | exact HK.out)) : KeepBut w W g r := h
theorem zl {p : Prop} (h : p := by (try simp only [List.map_toArray, List.map_cons, List.map_nil]); first | done | rfl | (simp only [List.length_drop, List.length_take]; rfl)) : p := h
theorem za {p : Prop} (h : p := by first | (with_reducible assumption) | assumption) : p := h
theorem zs {p : Prop} (h : p := by first | rfl | (simp; done) | (simp [*]; done)) : p := h
theorem s1 {α : Type} {xs : List α} {i : Nat} {a : α} : xs.toArray.setIfInBounds i a = (xs.set i a).toArray := List.setIfInBounds_toArray xs i a
theorem s2 {α : Type} {xs : List α} {a b : α} : (b :: xs).set 0 a = a :: xs := List.set_cons_zero
theorem s3 {α : Type} {xs : List α} {n : Nat} {a b : α} : (b :: xs).set (n + 1) a = b :: xs.set n a := List.set_cons_succ
end Go.Proofs.Ytdhahifdcoinhaa.Lm
