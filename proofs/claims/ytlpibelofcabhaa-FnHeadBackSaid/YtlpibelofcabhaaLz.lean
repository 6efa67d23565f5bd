/- Short words for what the printed walks say over and over: each proves its own goal. No program in sight. -/
import Derived.Test.YtlpibelofcabhaaWMore
import Derived.Test.YtlpibelofcabhaaWTab
import Derived.Tactics
import Derived.WalkKit
import Derived.IntWalk
namespace Go.Proofs.Ytlpibelofcabhaa.Lm
open Go.RowKit Go.Proofs.YtlpibelofcabhaaW.PrintWords Go.Proofs.YtlpibelofcabhaaW.PrintLast Go.Proofs.YtlpibelofcabhaaW.PrintMore
set_option linter.unusedVariables false
/-- W0 with blocks made and orders drawn. -/
inductive Mov : World → World → Prop
  | refl (W : World) : Mov W W
  | alloc {W0 W : World} (h : Mov W0 W) (o : Obj) : Mov W0 (W.alloc o)
  | drew {W0 W : World} (h : Mov W0 W) : Mov W0 W.drew
  | drewN {W0 W : World} (h : Mov W0 W) (m : Nat) : Mov W0 (W.drewN m)
theorem zk {W0 W : World} {g : Nat} {o : Obj} (h0 : Aside0 (W0.heap[g]? = some o)) (m : Mov W0 W := by (with_reducible repeat (first | exact Mov.refl _ | apply Mov.alloc | apply Mov.drewN | apply Mov.drew))) : W.heap[g]? = some o := by
  induction m with
  | refl => exact h0.out
  | alloc _ o ih => exact blk_alloc ih o
  | drew _ ih => exact blk_drew ih
  | drewN _ n ih => exact blk_drewN ih n
theorem zr {α : Type} {d : Kd α} {e base : Nat} {ok : Nat → Prop} {v : Value} {xs : List α} {W0 W : World} (h0 : Aside0 (d.R e W0 base ok v xs)) (m : Mov W0 W := by (with_reducible repeat (first | exact Mov.refl _ | apply Mov.alloc | apply Mov.drewN | apply Mov.drew))) : d.R e W base ok v xs := by
  induction m with
  | refl => exact h0.out
  | alloc _ o ih => exact Kd.R_alloc ih o
  | drew _ ih => exact Kd.R_drew ih
  | drewN _ n ih => exact Kd.R_drewN ih n
theorem zc {α : Type} {d : Kd α} {A : Option Addr} {n : Nat} {xs : List α} {W0 W : World} (h0 : d.C W0 A n xs) (m : Mov W0 W := by (with_reducible repeat (first | exact Mov.refl _ | apply Mov.alloc | apply Mov.drewN | apply Mov.drew))) : d.C W A n xs := by
  induction m with
  | refl => exact h0
  | alloc _ o ih => exact Kd.C_alloc ih o
  | drew _ ih => exact Kd.C_drew ih
  | drewN _ n ih => exact Kd.C_drewN ih n
theorem zb {n : Nat} {w W0 W : World} (h0 : Aside0 (Below n w W0)) (h : Below n w W := by repeat (first | (with_reducible first | exact HB.out | apply below_alloc | apply pw_below_drewN | apply below_drew1 | refine below_set ?_ (Aside0.out (by assumption))) | exact HB.out)) : Below n w W := h
theorem zh {g : Nat} {r : Option Nat} {w W0 W : World} (h0 : Aside0 (KeepBut w W0 g r)) (h : KeepBut w W g r := by repeat (first | (with_reducible first | exact HK.out | apply KeepBut.set_ | apply keep_drewN | apply keep_drew | apply keep_alloc | refine keep_far ?_ (Aside0.out (by assumption)) _) | exact HK.out)) : KeepBut w W g r := h
theorem zl {p : Prop} (h : p := by (try simp only [List.map_toArray, List.map_cons, List.map_nil]); first | done | rfl | (simp only [List.length_drop, List.length_take]; rfl)) : p := h
theorem za {p : Prop} (h : p := by first | (with_reducible assumption) | assumption) : p := h
theorem zs {p : Prop} (h : p := by first | rfl | (simp; done) | (simp [*]; done)) : p := h
theorem s1 {α : Type} {xs : List α} {i : Nat} {a : α} : xs.toArray.setIfInBounds i a = (xs.set i a).toArray := List.setIfInBounds_toArray xs i a
theorem s2 {α : Type} {xs : List α} {a b : α} : (b :: xs).set 0 a = a :: xs := List.set_cons_zero
theorem s3 {α : Type} {xs : List α} {n : Nat} {a b : α} : (b :: xs).set (n + 1) a = b :: xs.set n a := List.set_cons_succ
/-- n Bools, the bits of b. -/
def bm (n b : Nat) : Array Bool := ((List.range n).map fun i => b.testBit i).toArray
section
variable {P : Program} {ops : Array Oper} {Q : Exit → Act → World → Prop} {md : Region.Mode} {S : World → Prop} {ds : List Nat}
/-- A step that yields in every world. -/
theorem pu {v : Value} {a' : Act} {oi : Oper} {fuel : Nat} {l : Array Bool} {a : Act} {w : World} (i : Nat) (N : Option Tmp) (l' : Array Bool) (hi : ops[i]? = some oi) (hN : oi.dst = N)
    (h : wpAnyLast P md ops Q S ds fuel l' a' w)
    (hy : Yields P ops oi v a := by first | (refine Or.inl ⟨by rfl, ?_⟩; intro w'; go_simp; with_reducible rfl) | (refine Or.inl ⟨by rfl, ?_⟩; intro w'; go_simp; simp only [Instr.field, asAgg]; go_simp; with_reducible rfl))
    (ha : a.put N v = a' := by (simp only [Act.put, s1, s2, s3, i64_w, i32_w]; rfl))
    (hc : anyB md ops l l' i = true := by first | exact any_of HT_.out (by kernel_rfl) | kernel_rfl)
    (hQ : ∀ c a w, Q (.panic c) (a.put oi.dst v) w → Q (.panic c) a w := by exact fun _ _ _ h => h) : wpAnyLast P md ops Q S ds (fuel + 1) l a w := pure_ l' hi hN hc hQ hy ha h
/-- The same for a step that is not wanted. -/
theorem pv {a' : Act} {oi : Oper} {fuel : Nat} {l : Array Bool} {a : Act} {w : World} (i : Nat) (N : Option Tmp) (l' : Array Bool) (hi : ops[i]? = some oi) (hN : oi.dst = N)
    (h : wpAnyLast P md ops Q S ds fuel l' a' w)
    (hy : Yields P ops oi undef a := by exact (Or.inr ⟨by rfl, rfl⟩))
    (ha : a.put N undef = a' := by (simp only [Act.put, s1, s2, s3, i64_w, i32_w]; rfl))
    (hc : anyB md ops l l' i = true := by first | exact any_of HT_.out (by kernel_rfl) | kernel_rfl)
    (hQ : ∀ c a w, Q (.panic c) (a.put oi.dst undef) w → Q (.panic c) a w := by exact fun _ _ _ h => h) : wpAnyLast P md ops Q S ds (fuel + 1) l a w := pure_ l' hi hN hc hQ hy ha h
theorem tk {v : Value} {a' : Act} {oi : Oper} {fuel : Nat} {l : Array Bool} {a : Act} {w : World} (i : Nat) (N : Option Tmp) (l' : Array Bool) (hi : ops[i]? = some oi) (hN : oi.dst = N) (hS : S w)
    (h : wpAnyLast P md ops Q S ds fuel l' a' w)
    (hy : YieldsIf P ops S oi v a := by first | (refine Or.inl ⟨by rfl, ?_⟩; intro w' hs; (repeat (have s_ := hs.1; replace hs := hs.2)); go_simp; with_reducible rfl) | (refine Or.inl ⟨by rfl, ?_⟩; intro w' hs; (try simp only [Go.IntWalk.toNatUp] at hs); (repeat (have s_ := hs.1; replace hs := hs.2)); go_simp; with_reducible rfl))
    (ha : a.put N v = a' := by (simp only [Act.put, s1, s2, s3, i64_w, i32_w]; rfl))
    (hc : takeB md ops ds l l' i = true := by first | exact take_ofW HT_.out HW_.out (by kernel_rfl) | kernel_rfl)
    (hQ : ∀ c a w, Q (.panic c) (a.put oi.dst v) w → Q (.panic c) a w := by exact fun _ _ _ h => h) : wpAnyLast P md ops Q S ds (fuel + 1) l a w := take_ l' hi hN hc hQ hy hS ha h
theorem nm {fuel : Nat} {l : Array Bool} {a a' : Act} {w : World} (h : wpAnyLast P md ops Q S ds fuel l a' w) (ha : a = a' := by (show Act.put _ (some _) _ = _; simp only [Act.put, s1, s2, s3, i64_w, i32_w]; rfl)) : wpAnyLast P md ops Q S ds fuel l a w := norm_ ha h
end
section
variable {P : Program} {ops : Array Oper} {rest : List Oper} {o : Oper} {a : Act} {Q : Exit → Act → World → Prop} {W : World}
theorem gq {as : Array Operand} {ts : Array TypeId} (f : FuncId) (_ho : o.op = .call { callee := .value (.func f), args := as, argTypes := ts }) (h : wpList P ops Q (o :: rest) a W) : wpList P ops Q (o :: rest) a W := h
theorem gd (N : Tmp) (_hN : o.dst = some N) (h : wpList P ops Q (o :: rest) a W) : wpList P ops Q (o :: rest) a W := h
/-- A call in a plain region. -/
theorem gl {f : FuncId} {fn : Func} {as : Array Operand} {ts : Array TypeId} (N : Option Tmp) (hf : P.funcs[f]? = some fn) (args : Array Value)
    (h : Calls P f args W fun e w' => ∃ v, e = .returned v ∧ wpList P ops Q rest (a.put N v) w')
    (hd : o.dst = N := by rfl) (hg : o.guard = none := by rfl) (hname : (fn.name == "runtime.NumGoroutine") = false := by kernel_rfl) (hb : fn.body.isSome = true := by rfl)
    (hop : o.op = .call { callee := .value (.func f), args := as, argTypes := ts } := by rfl)
    (hargs : as.map a.eval = args := by ((try simp only [List.map_toArray, List.map_cons, List.map_nil]); first | done | rfl | (simp only [List.length_drop, List.length_take]; rfl))) : wpList P ops Q (o :: rest) a W := goesL_ N hd hg hf hname hb args hop hargs h
/-- A variable in memory. -/
theorem bx {N : Tmp} {cs : Array Value} {t : TypeId}
    (h : ∀ g, g = W.heap.size → ∀ w1, w1.heap[g]? = some (.cells cs t (0, 0)) → Below W.heap.size W w1 → wpList P ops Q rest (a.put o.dst (.pointer (some ⟨g, 0, none⟩))) w1)
    (hd : o.dst = some N := by rfl) (hgd : o.guard = none := by rfl)
    (hr : (execOp a.eval o).run P W = .ok (.value (.pointer (some ⟨W.heap.size, 0, none⟩))) (W.alloc (.cells cs t (0, 0))) := by first | (go_simp; done) | (go_simp; rfl)) : wpList P ops Q (o :: rest) a W := box_event hgd hd hr h
end
section
variable {P : Program} {ops : Array Oper} {Q : Exit → Act → World → Prop}
/-- A call in a region that draws. -/
theorem gs {oi : Oper} {N : Option Tmp} {a : Act} {w : World} {K : Act → World → Prop} {f : FuncId} {fn : Func} {as : Array Operand} {ts : Array TypeId} (hf : P.funcs[f]? = some fn) (args : Array Value)
    (h : Calls P f args w fun e w' => ∃ v, e = .returned v ∧ K (a.put N v) w')
    (hname : (fn.name == "runtime.NumGoroutine") = false := by kernel_rfl) (hb : fn.body.isSome = true := by rfl)
    (hw : Region.wanted oi (yielded ops a.tmps) = true := by rfl) (hN : oi.dst = N := by rfl) (hop : oi.op = .call { callee := .value (.func f), args := as, argTypes := ts } := by rfl)
    (hargs : as.map a.eval = args := by ((try simp only [List.map_toArray, List.map_cons, List.map_nil]); first | done | rfl | (simp only [List.length_drop, List.length_take]; rfl))) : if Region.wanted oi (yielded ops a.tmps) = true then Oper.wp P oi a w K Q else K (a.put N undef) w := goes_ hf hname hb args hw hN hop hargs h
end
theorem ob {α β : Type} {o : Option α} {f : α → Option β} {r : β} (h : o.bind f = some r) : ∃ t, Aside0 (o = some t) ∧ f t = some r := by
  obtain ⟨t, h1, h2⟩ := Option.bind_eq_some_iff.mp h
  exact ⟨t, ⟨h1⟩, h2⟩
section
theorem kb {W0 W W1 : World} {g : Nat} {o : Obj} (h0 : Aside0 (W0.heap[g]? = some o)) (hb : Below W.heap.size W W1) (m : Mov W0 W := by (with_reducible repeat (first | exact Mov.refl _ | apply Mov.alloc | apply Mov.drewN | apply Mov.drew))) : Aside0 (W1.heap[g]? = some o) := ⟨blk_below (zk h0 m) hb⟩
theorem nb {W0 W : World} {g g' : Nat} {o : Obj} (h0 : Aside0 (W0.heap[g]? = some o)) (hg : g' = W.heap.size) (m : Mov W0 W := by (with_reducible repeat (first | exact Mov.refl _ | apply Mov.alloc | apply Mov.drewN | apply Mov.drew))) : Aside0 (g ≠ g') ∧ Aside0 (g' ≠ g) := by
  have h := blk_lt (zk h0 m)
  exact ⟨⟨by omega⟩, ⟨by omega⟩⟩
theorem gw {g : Nat} {w W0 W : World} (h0 : Aside0 (Below w.heap.size w W0)) (hg : g = W.heap.size) (h : Below w.heap.size w W := by repeat (first | (with_reducible first | exact HB.out | apply below_alloc | apply pw_below_drewN | apply below_drew1 | refine below_set ?_ (Aside0.out (by assumption))) | exact HB.out)) : Aside0 (w.heap.size ≤ g) := ⟨by rw [hg]; exact below_size h⟩
theorem zV {α : Type} {d : Kd α} {e base : Nat} {ok : Nat → Prop} {v : Value} {xs : List α} {W0 W : World} (h0 : Aside0 (d.V e W0 base ok v xs)) (m : Mov W0 W := by (with_reducible repeat (first | exact Mov.refl _ | apply Mov.alloc | apply Mov.drewN | apply Mov.drew))) : d.V e W base ok v xs := by
  induction m with
  | refl => exact h0.out
  | alloc _ o ih => exact Kd.V_alloc ih o
  | drew _ ih => exact Kd.V_drew ih
  | drewN _ n ih => exact Kd.V_drewN ih n
theorem zN {α : Type} {d : Kd α} {e base : Nat} {ok : Nat → Prop} {v : Value} {xs : List α} {W0 W : World} (h0 : Aside0 (d.N e W0 base ok v xs)) (m : Mov W0 W := by (with_reducible repeat (first | exact Mov.refl _ | apply Mov.alloc | apply Mov.drewN | apply Mov.drew))) : d.N e W base ok v xs := by
  induction m with
  | refl => exact h0.out
  | alloc _ o ih => exact Kd.N_alloc ih o
  | drew _ ih => exact Kd.N_drew ih
  | drewN _ n ih => exact Kd.N_drewN ih n
theorem c1 {W : World} {g t : Nat} {x0 : Value} (h : Aside0 (W.heap[g]? = some (.cells #[x0] t (0, 0)))) : W.cell? ⟨g, 0, none⟩ = some x0 ∧ W.frozen? ⟨g, 0, none⟩ = false := ⟨(blk_cell h.out 0).trans rfl, blk_frozen h.out 0⟩
theorem c2 {W : World} {g t : Nat} {x0 x1 : Value} (h : Aside0 (W.heap[g]? = some (.cells #[x0, x1] t (0, 0)))) : W.cell? ⟨g, 0, none⟩ = some x0 ∧ W.cell? ⟨g, 1, none⟩ = some x1 ∧ W.frozen? ⟨g, 0, none⟩ = false ∧ W.frozen? ⟨g, 1, none⟩ = false := ⟨(blk_cell h.out 0).trans rfl, (blk_cell h.out 1).trans rfl, blk_frozen h.out 0, blk_frozen h.out 1⟩
theorem c3 {W : World} {g t : Nat} {x0 x1 x2 : Value} (h : Aside0 (W.heap[g]? = some (.cells #[x0, x1, x2] t (0, 0)))) : W.cell? ⟨g, 0, none⟩ = some x0 ∧ W.cell? ⟨g, 1, none⟩ = some x1 ∧ W.cell? ⟨g, 2, none⟩ = some x2 ∧ W.frozen? ⟨g, 0, none⟩ = false ∧ W.frozen? ⟨g, 1, none⟩ = false ∧ W.frozen? ⟨g, 2, none⟩ = false := ⟨(blk_cell h.out 0).trans rfl, (blk_cell h.out 1).trans rfl, (blk_cell h.out 2).trans rfl, blk_frozen h.out 0, blk_frozen h.out 1, blk_frozen h.out 2⟩
theorem c4 {W : World} {g t : Nat} {x0 x1 x2 x3 : Value} (h : Aside0 (W.heap[g]? = some (.cells #[x0, x1, x2, x3] t (0, 0)))) : W.cell? ⟨g, 0, none⟩ = some x0 ∧ W.cell? ⟨g, 1, none⟩ = some x1 ∧ W.cell? ⟨g, 2, none⟩ = some x2 ∧ W.cell? ⟨g, 3, none⟩ = some x3 ∧ W.frozen? ⟨g, 0, none⟩ = false ∧ W.frozen? ⟨g, 1, none⟩ = false ∧ W.frozen? ⟨g, 2, none⟩ = false ∧ W.frozen? ⟨g, 3, none⟩ = false := ⟨(blk_cell h.out 0).trans rfl, (blk_cell h.out 1).trans rfl, (blk_cell h.out 2).trans rfl, (blk_cell h.out 3).trans rfl, blk_frozen h.out 0, blk_frozen h.out 1, blk_frozen h.out 2, blk_frozen h.out 3⟩
theorem c5 {W : World} {g t : Nat} {x0 x1 x2 x3 x4 : Value} (h : Aside0 (W.heap[g]? = some (.cells #[x0, x1, x2, x3, x4] t (0, 0)))) : W.cell? ⟨g, 0, none⟩ = some x0 ∧ W.cell? ⟨g, 1, none⟩ = some x1 ∧ W.cell? ⟨g, 2, none⟩ = some x2 ∧ W.cell? ⟨g, 3, none⟩ = some x3 ∧ W.cell? ⟨g, 4, none⟩ = some x4 ∧ W.frozen? ⟨g, 0, none⟩ = false ∧ W.frozen? ⟨g, 1, none⟩ = false ∧ W.frozen? ⟨g, 2, none⟩ = false ∧ W.frozen? ⟨g, 3, none⟩ = false ∧ W.frozen? ⟨g, 4, none⟩ = false := ⟨(blk_cell h.out 0).trans rfl, (blk_cell h.out 1).trans rfl, (blk_cell h.out 2).trans rfl, (blk_cell h.out 3).trans rfl, (blk_cell h.out 4).trans rfl, blk_frozen h.out 0, blk_frozen h.out 1, blk_frozen h.out 2, blk_frozen h.out 3, blk_frozen h.out 4⟩
theorem c6 {W : World} {g t : Nat} {x0 x1 x2 x3 x4 x5 : Value} (h : Aside0 (W.heap[g]? = some (.cells #[x0, x1, x2, x3, x4, x5] t (0, 0)))) : W.cell? ⟨g, 0, none⟩ = some x0 ∧ W.cell? ⟨g, 1, none⟩ = some x1 ∧ W.cell? ⟨g, 2, none⟩ = some x2 ∧ W.cell? ⟨g, 3, none⟩ = some x3 ∧ W.cell? ⟨g, 4, none⟩ = some x4 ∧ W.cell? ⟨g, 5, none⟩ = some x5 ∧ W.frozen? ⟨g, 0, none⟩ = false ∧ W.frozen? ⟨g, 1, none⟩ = false ∧ W.frozen? ⟨g, 2, none⟩ = false ∧ W.frozen? ⟨g, 3, none⟩ = false ∧ W.frozen? ⟨g, 4, none⟩ = false ∧ W.frozen? ⟨g, 5, none⟩ = false := ⟨(blk_cell h.out 0).trans rfl, (blk_cell h.out 1).trans rfl, (blk_cell h.out 2).trans rfl, (blk_cell h.out 3).trans rfl, (blk_cell h.out 4).trans rfl, (blk_cell h.out 5).trans rfl, blk_frozen h.out 0, blk_frozen h.out 1, blk_frozen h.out 2, blk_frozen h.out 3, blk_frozen h.out 4, blk_frozen h.out 5⟩
theorem sp {c : Prop} [Decidable c] {α : Type} {a b r : α} (h : (if c then a else b) = r) : (c ∧ a = r) ∨ (¬ c ∧ b = r) := by
  by_cases hc : c
  · rw [if_pos hc] at h; exact .inl ⟨hc, h⟩
  · rw [if_neg hc] at h; exact .inr ⟨hc, h⟩
theorem zm {p : Prop} (h : p := by repeat' first | (with_reducible exact LeO.refl _) | (with_reducible exact LeO.none _) | (with_reducible apply ih0) | (with_reducible apply ih1) | (with_reducible apply ih2) | (with_reducible apply ih3) | (with_reducible apply ih4) | (with_reducible apply ih5) | (with_reducible apply ih6) | (with_reducible apply ih7) | (with_reducible apply m0) | (with_reducible apply m1) | (with_reducible apply m2) | (with_reducible apply m3) | (with_reducible apply m4) | (with_reducible apply m5) | (with_reducible apply m6) | (with_reducible apply m7) | (with_reducible apply m8) | (with_reducible apply m9) | (with_reducible apply m10) | (with_reducible apply m11) | (with_reducible apply m12) | (with_reducible apply m13) | (with_reducible apply m14) | (with_reducible apply m15) | (with_reducible apply m16) | (with_reducible apply m17) | (with_reducible apply m18) | (with_reducible apply m19) | (with_reducible apply m20) | (with_reducible apply m21) | (with_reducible apply m22) | (with_reducible apply m23) | (with_reducible refine LeO.ite ?_ ?_) | (with_reducible refine LeO.bind ?_ (fun _ => ?_)) | apply ih0 | apply ih1 | apply ih2 | apply ih3 | apply ih4 | apply ih5 | apply ih6 | apply ih7 | apply m0 | apply m1 | apply m2 | apply m3 | apply m4 | apply m5 | apply m6 | apply m7 | apply m8 | apply m9 | apply m10 | apply m11 | apply m12 | apply m13 | apply m14 | apply m15 | apply m16 | apply m17 | apply m18 | apply m19 | apply m20 | apply m21 | apply m22 | apply m23 | exact LeO.none _ | refine LeO.ite ?_ ?_ | refine LeO.bind ?_ (fun _ => ?_)) : p := h
end
end Go.Proofs.Ytlpibelofcabhaa.Lm
