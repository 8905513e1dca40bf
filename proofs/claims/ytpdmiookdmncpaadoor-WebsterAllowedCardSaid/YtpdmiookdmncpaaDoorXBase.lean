/- What the walks of this place lean on beside the printed words: a call of a function that the model stands in for, as one step; the table of math/bits in its variable.
   Conditions: none beyond what each theorem's head says. -/
import Derived.Test.YtpdmiookdmncpaaDoorProg
import Derived.Laws.Externs
import Derived.Laws.Bits64b
import Derived.Lib.TrailingZeros
import Derived.Lib.BitFns
import Derived.WalkKit
import Derived.KernelRfl
import Derived.Below
import Derived.Test.YtpdmiookdmncpaaDoorWWords
import Derived.Test.YtpdmiookdmncpaaDoorWLast
import Derived.Test.YtpdmiookdmncpaaDoorWMore
namespace Go.Proofs.YtpdmiookdmncpaaDoor.X
open Go.RowKit Go.Proofs.YtpdmiookdmncpaaDoorW.PrintWords Go.Proofs.YtpdmiookdmncpaaDoorW.PrintLast Go.Proofs.YtpdmiookdmncpaaDoorW.PrintMore

section
variable {P : Program} {ops : Array Oper} {Q : Exit → Act → World → Prop}
/-- A call that the model answers here and now. -/
def XCalls (P : Program) (f : FuncId) (args : Array Value) (w : World) (R : Ending → World → Prop) : Prop :=
  ∃ v, (callFunc f args).run P w = .ok (.value v) w ∧ R (.returned v) w
theorem XCalls.mono {f : FuncId} {args : Array Value} {w : World} {R R' : Ending → World → Prop} (h : XCalls P f args w R) (k : ∀ e w', R e w' → R' e w') : XCalls P f args w R' := by
  obtain ⟨v, h1, h2⟩ := h
  exact ⟨v, h1, k _ _ h2⟩
theorem goesX_ {rest : List Oper} {oi : Oper} {a : Act} {w : World} (N : Option Tmp) (hd : oi.dst = N) (hg : oi.guard = none) {f : FuncId} {ars : Array Operand} {ts : Array TypeId} (args : Array Value)
    (hop : oi.op = .call { callee := .value (.func f), args := ars, argTypes := ts }) (hargs : ars.map a.eval = args)
    (h : XCalls P f args w fun e w' => ∃ v, e = .returned v ∧ wpList P ops Q rest (a.put N v) w') : wpList P ops Q (oi :: rest) a w := by
  refine wpList_plain hg fun K hK => ?_
  obtain ⟨v, hv, v', hv', hk⟩ := h
  cases hv'
  have hrun : (execOp a.eval oi).run P w = .ok (.value v) w := by
    unfold execOp
    simp [hop, resolve, Deferred.ofValue, invoke, Act.eval, hargs, hv]
  unfold Oper.wp
  rw [hrun, Oper.upon_value]
  subst hd
  exact hK _ _ hk
/-- A call of a function that a slot holds. -/
theorem gate_tmp {rest : List Oper} {o : Oper} {a : Act} {w : World} {t : Tmp} {ars : Array Operand} {ts : Array TypeId} (_ho : o.op = .call { callee := .value (.tmp t), args := ars, argTypes := ts }) (h : wpList P ops Q (o :: rest) a w) : wpList P ops Q (o :: rest) a w := h
theorem goesT_ {rest : List Oper} {oi : Oper} {a : Act} {w : World} (N : Option Tmp) (hd : oi.dst = N) (hg : oi.guard = none) {f : FuncId} {fn : Func} {t : Tmp} {ars : Array Operand} {ts : Array TypeId} (hf : P.funcs[f]? = some fn) (hname : (fn.name == "runtime.NumGoroutine") = false) (hb : fn.body.isSome = true) (args : Array Value)
    (hop : oi.op = .call { callee := .value (.tmp t), args := ars, argTypes := ts }) (hargs : ars.map a.eval = args) (hcal : a.eval (.tmp t) = .func (.func f) #[] #[])
    (h : Calls P f args w fun e w' => ∃ v, e = .returned v ∧ wpList P ops Q rest (a.put N v) w') : wpList P ops Q (oi :: rest) a w := by
  refine wpList_plain hg fun K hK => ?_
  have he := enters_ hf hname hb args w
  have hrun : (execOp a.eval oi).run P w = .ok (.enter f args) w := by
    unfold execOp
    simp [hop, resolve, hcal, Deferred.ofValue, invoke, hargs, he]
  unfold Oper.wp
  rw [hrun, Oper.upon_enter]
  refine h.mono fun e w'' hh => ?_
  obtain ⟨v, rfl, hk⟩ := hh
  subst hd
  exact hK _ _ hk
end
/-! ### Short words for what the print lays often -/
section
variable {w W W1 : World} {g g' : Nat} {o : Obj}
theorem bb (h : Aside0 (w.heap[g]? = some o)) (hb : Below W.heap.size W W1) (ht : w.heap[g]? = some o → W.heap[g]? = some o := by (intro h; (with_reducible repeat (first | refine blk_drewN ?_ _ | refine blk_drew ?_ | refine blk_alloc ?_ _)); exact h)) : Aside0 (W1.heap[g]? = some o) := ⟨blk_below (ht h.out) hb⟩
theorem bl (h : Aside0 (w.heap[g]? = some o)) (hg : g' = W.heap.size) (ht : w.heap[g]? = some o → W.heap[g]? = some o := by (intro h; (with_reducible repeat (first | refine blk_drewN ?_ _ | refine blk_drew ?_ | refine blk_alloc ?_ _)); exact h)) : Aside0 (g ≠ g') := ⟨by rw [hg]; exact Nat.ne_of_lt (blk_lt (ht h.out))⟩
theorem bg (h : Aside0 (w.heap[g]? = some o)) (hg : g' = W.heap.size) (ht : w.heap[g]? = some o → W.heap[g]? = some o := by (intro h; (with_reducible repeat (first | refine blk_drewN ?_ _ | refine blk_drew ?_ | refine blk_alloc ?_ _)); exact h)) : Aside0 (g' ≠ g) := ⟨by rw [hg]; exact Nat.ne_of_gt (blk_lt (ht h.out))⟩
theorem bs {w0 : World} (h : Aside0 (Below w0.heap.size w0 w)) (hb : Below W.heap.size W W1) (ht : Below w0.heap.size w0 w → Below w0.heap.size w0 W := by (intro h; (repeat (first | (with_reducible first | exact h | apply below_alloc | apply pw_below_drewN | apply below_drew1 | refine below_set ?_ (Aside0.out (by assumption))) | exact h)))) : Aside0 (Below w0.heap.size w0 W1) := ⟨below_step (ht h.out) hb⟩
theorem bz {w0 : World} (h : Aside0 (Below w0.heap.size w0 w)) (hg : g = W.heap.size) (ht : Below w0.heap.size w0 w → Below w0.heap.size w0 W := by (intro h; (repeat (first | (with_reducible first | exact h | apply below_alloc | apply pw_below_drewN | apply below_drew1 | refine below_set ?_ (Aside0.out (by assumption))) | exact h)))) : Aside0 (w0.heap.size ≤ g) := ⟨by rw [hg]; exact below_size (ht h.out)⟩
theorem bc {t : TypeId} {cs : Array Value} {v : Value} (h : Aside0 (w.heap[g]? = some (.cells cs t (0, 0)))) (i : Nat) (e : cs[i]? = some v) : w.cell? ⟨g, i, none⟩ = some v := (blk_cell h.out i).trans e
theorem re_ {α : Type} {d : Kd α} {e : TypeId} {base : Nat} {ok : Nat → Prop} {u v : Value} {xs : List α} (h : Aside0 (d.R e w base ok u xs)) (hbase : ∀ k, v.ownBlock = some k → W.heap.size ≤ k) (hb : Below W.heap.size W W1) (ht : d.R e w base ok u xs → d.R e W base ok u xs := by (intro h; (with_reducible repeat (first | apply Kd.R_alloc | apply Kd.R_drewN | apply Kd.R_drew)); exact h)) : Aside0 (d.R e W1 base (fun k => ok k ∧ some k ≠ v.ownBlock) u xs) := ⟨Kd.R_elder' (ht h.out) hbase hb⟩
theorem rb {α : Type} {d : Kd α} {e : TypeId} {base : Nat} {ok : Nat → Prop} {v : Value} {xs : List α} (h : Aside0 (d.R e w base ok v xs)) (hb : Below W.heap.size W W1) (ht : d.R e w base ok v xs → d.R e W base ok v xs := by (intro h; (with_reducible repeat (first | apply Kd.R_alloc | apply Kd.R_drewN | apply Kd.R_drew)); exact h)) : Aside0 (d.R e W1 base ok v xs) := ⟨Kd.R_below (ht h.out) hb⟩
theorem rl {α : Type} {d : Kd α} {e : TypeId} {base : Nat} {ok : Nat → Prop} {v : Value} {xs : List α} (h : Aside0 (d.R e w base ok v xs)) (ht : d.R e w base ok v xs → d.R e W base ok v xs := by (intro h; (with_reducible repeat (first | apply Kd.R_alloc | apply Kd.R_drewN | apply Kd.R_drew)); exact h)) : ∀ k, v.ownBlock = some k → k < W.heap.size := Kd.R_lt (ht h.out)
end

/-- The table of math/bits in its variable. -/
def TabOK (w : World) : Prop := ∀ j, j < 64 → w.cell? ⟨0, j, none⟩ = some (.int .u8 (Lib.deBruijn64tab.getD j 0))
theorem TabOK.below {w w' : World} (h : TabOK w) (hb : Below w.heap.size w w') : TabOK w' := fun j hj =>
  (hb.cell (World.block_lt_of_cell? w _ (h j hj))).trans (h j hj)
theorem tb {w w1 W : World} (h : TabOK w) (k : Aside0 (Below w.heap.size w w1)) (ht : Below w.heap.size w w1 → Below w.heap.size w W := by (intro h; (repeat (first | (with_reducible first | exact h | apply below_alloc | apply pw_below_drewN | apply below_drew1 | refine below_set ?_ (Aside0.out (by assumption))) | exact h)))) : TabOK W := h.below (ht k.out)
theorem tb0 {w W : World} (h : TabOK w) (ht : Below w.heap.size w W := by (repeat (first | (with_reducible first | exact Below.refl _ _ | apply below_alloc | apply pw_below_drewN | apply below_drew1) | exact Below.refl _ _))) : TabOK W := h.below ht

end Go.Proofs.YtpdmiookdmncpaaDoor.X
