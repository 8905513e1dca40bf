/- What the walks of this place lean on beside the printed words: a call of a function that the model stands in for, as one step; the table of math/bits in its variable.
   Conditions: none beyond what each theorem's head says. -/
import Derived.Test.YtkbffpadkdgbmaaGreatDoorProg
import Derived.Laws.Externs
import Derived.Laws.Bits64b
import Derived.Lib.TrailingZeros
import Derived.Lib.BitFns
import Derived.WalkKit
import Derived.KernelRfl
import Derived.Below
import Derived.Test.YtkbffpadkdgbmaaGreatDoorShelf
import Derived.Lib.AppendIntMem
import Derived.Test.YtkbffpadkdgbmaaGreatDoorV
namespace Go.Proofs.YtkbffpadkdgbmaaGreatDoor.X
open Go.RowKit Go.Proofs.YtkbffpadkdgbmaaGreatDoorW.PrintWords Go.Proofs.YtkbffpadkdgbmaaGreatDoorW.PrintLast Go.Proofs.YtkbffpadkdgbmaaGreatDoorW.PrintMore

section
variable {P : Program} {ops : Array Oper} {Q : Exit → Act → World → Prop}
/-- A call that the model answers here and now. -/
def XCalls (P : Program) (f : FuncId) (args : Array Value) (w : World) (R : Ending → World → Prop) : Prop :=
  ∃ v, (callFunc f args).run P w = .ok (.value v) w ∧ R (.returned v) w
theorem XCalls.mono {f : FuncId} {args : Array Value} {w : World} {R R' : Ending → World → Prop} (h : XCalls P f args w R) (k : ∀ e w', R e w' → R' e w') : XCalls P f args w R' := by
  obtain ⟨v, h1, h2⟩ := h
  exact ⟨v, h1, k _ _ h2⟩
end
/-! ### Short words for what the print lays often -/
section
variable {w W W1 : World} {g g' : Nat} {o : Obj}
theorem bs {w0 : World} (h : Aside0 (Below w0.heap.size w0 w)) (hb : Below W.heap.size W W1) (ht : Below w0.heap.size w0 w → Below w0.heap.size w0 W := by (intro h; (repeat (first | (with_reducible first | exact h | apply below_alloc | apply pw_below_drewN | apply below_drew1 | refine below_set ?_ (Aside0.out (by assumption))) | exact h)))) : Aside0 (Below w0.heap.size w0 W1) := ⟨below_step (ht h.out) hb⟩
theorem bz {w0 : World} (h : Aside0 (Below w0.heap.size w0 w)) (hg : g = W.heap.size) (ht : Below w0.heap.size w0 w → Below w0.heap.size w0 W := by (intro h; (repeat (first | (with_reducible first | exact h | apply below_alloc | apply pw_below_drewN | apply below_drew1 | refine below_set ?_ (Aside0.out (by assumption))) | exact h)))) : Aside0 (w0.heap.size ≤ g) := ⟨by rw [hg]; exact below_size (ht h.out)⟩
theorem bf {w0 : World} (h : Aside0 (Below w0.heap.size w0 w)) (ht : Below w0.heap.size w0 w → Below w0.heap.size w0 W := by (intro h; (repeat (first | (with_reducible first | exact h | apply below_alloc | apply pw_below_drewN | apply below_drew1 | refine below_set ?_ (Aside0.out (by assumption))) | exact h)))) : Below w0.heap.size w0 W := ht h.out
theorem ag {α : Type} {x y : α} (h : x = y := by ((try simp only [List.map_toArray, List.map_cons, List.map_nil]); first | done | rfl | (simp only [List.length_drop, List.length_take]; rfl))) : x = y := h
end
/-! ### Longer words -/
section
variable {w w1 W : World} {g g' : Nat} {t : TypeId}
theorem k1 {v0 : Value} (h : Aside0 (w.heap[g]? = some (.cells #[v0] t (0, 0)))) : w.cell? ⟨g, 0, none⟩ = some v0 ∧ w.frozen? ⟨g, 0, none⟩ = false := ⟨(blk_cell h.out 0).trans rfl, blk_frozen h.out 0⟩
theorem k2 {v0 v1 : Value} (h : Aside0 (w.heap[g]? = some (.cells #[v0, v1] t (0, 0)))) : w.cell? ⟨g, 0, none⟩ = some v0 ∧ w.cell? ⟨g, 1, none⟩ = some v1 ∧ w.frozen? ⟨g, 0, none⟩ = false ∧ w.frozen? ⟨g, 1, none⟩ = false := ⟨(blk_cell h.out 0).trans rfl, (blk_cell h.out 1).trans rfl, blk_frozen h.out 0, blk_frozen h.out 1⟩
theorem k3 {v0 v1 v2 : Value} (h : Aside0 (w.heap[g]? = some (.cells #[v0, v1, v2] t (0, 0)))) : w.cell? ⟨g, 0, none⟩ = some v0 ∧ w.cell? ⟨g, 1, none⟩ = some v1 ∧ w.cell? ⟨g, 2, none⟩ = some v2 ∧ w.frozen? ⟨g, 0, none⟩ = false ∧ w.frozen? ⟨g, 1, none⟩ = false ∧ w.frozen? ⟨g, 2, none⟩ = false := ⟨(blk_cell h.out 0).trans rfl, (blk_cell h.out 1).trans rfl, (blk_cell h.out 2).trans rfl, blk_frozen h.out 0, blk_frozen h.out 1, blk_frozen h.out 2⟩
theorem k4 {v0 v1 v2 v3 : Value} (h : Aside0 (w.heap[g]? = some (.cells #[v0, v1, v2, v3] t (0, 0)))) : w.cell? ⟨g, 0, none⟩ = some v0 ∧ w.cell? ⟨g, 1, none⟩ = some v1 ∧ w.cell? ⟨g, 2, none⟩ = some v2 ∧ w.cell? ⟨g, 3, none⟩ = some v3 ∧ w.frozen? ⟨g, 0, none⟩ = false ∧ w.frozen? ⟨g, 1, none⟩ = false ∧ w.frozen? ⟨g, 2, none⟩ = false ∧ w.frozen? ⟨g, 3, none⟩ = false := ⟨(blk_cell h.out 0).trans rfl, (blk_cell h.out 1).trans rfl, (blk_cell h.out 2).trans rfl, (blk_cell h.out 3).trans rfl, blk_frozen h.out 0, blk_frozen h.out 1, blk_frozen h.out 2, blk_frozen h.out 3⟩
theorem bi_ {α β : Type} {x : Option α} {f : α → Option β} {r : β} (h : x.bind f = some r) : ∃ a, Aside0 (x = some a) ∧ f a = some r := by
  obtain ⟨a, h1, h2⟩ := Option.bind_eq_some_iff.mp h
  exact ⟨a, ⟨h1⟩, h2⟩
theorem aq {α : Type} {x y : α} (h : x = y := by first | rfl | (simp; done) | (simp [*]; done)) : x = y := h
theorem dr {w w' : World} (h : Drawn0 w w' := by repeat (first | exact Drawn0.refl _ | apply Drawn0.step)) : Drawn0 w w' := h
end
section
variable {P : Program} {ops : Array Oper} {rest : List Oper} {o : Oper} {a : Act} {Q : Exit → Act → World → Prop} {W : World}
theorem gc (f : FuncId) {ars : Array Operand} {ts : Array TypeId} (_ho : o.op = .call { callee := .value (.func f), args := ars, argTypes := ts }) (h : wpList P ops Q (o :: rest) a W) : wpList P ops Q (o :: rest) a W := h
theorem gd (N : Tmp) (_hN : o.dst = some N) (h : wpList P ops Q (o :: rest) a W) : wpList P ops Q (o :: rest) a W := h
theorem gm_ (N : Option Tmp) (hd : o.dst = N) {f : FuncId} {fn : Func} {ars : Array Operand} {ts : Array TypeId} {args : Array Value} {v : Value} {R : World → Prop} (hop : o.op = .call { callee := .value (.func f), args := ars, argTypes := ts }) (hf : P.funcs[f]? = some fn)
    (h : Calls P f args W fun e w' => e = .returned v ∧ R w') (hargs : ars.map a.eval = args) (k : ∀ w', R w' → wpList P ops Q rest (a.put N v) w') (hg : o.guard = none := by rfl) (hb : fn.body.isSome = true := by kernel_rfl) (hname : (fn.name == "runtime.NumGoroutine") = false := by kernel_rfl) : wpList P ops Q (o :: rest) a W :=
  goesL_ N hd hg hf hname hb args hop hargs (h.mono fun _ w' ⟨he, hr⟩ => ⟨v, he, k w' hr⟩)
theorem bx_ (N : Tmp) (t : TypeId) (cs : Array Value) (hd : o.dst = some N) (hgd : o.guard = none) (h : ∀ g, g = W.heap.size → ∀ w1, Aside0 (w1.heap[g]? = some (.cells cs t (0, 0))) → Below W.heap.size W w1 → wpList P ops Q rest (a.put o.dst (.pointer (some ⟨g, 0, none⟩))) w1)
    (hrun : (execOp a.eval o).run P W = .ok (.value (.pointer (some ⟨W.heap.size, 0, none⟩))) (W.alloc (.cells cs t (0, 0))) := by first | (go_simp; done) | (go_simp; rfl)) : wpList P ops Q (o :: rest) a W := box_event hgd hd hrun fun g hg w1 h1 h2 => h g hg w1 ⟨h1⟩ h2
end
section
variable {P : Program} {ops : Array Oper} {Q : Exit → Act → World → Prop} {md : Region.Mode} {S : World → Prop} {ds : List Nat} {T : Bool × List (List Nat × List Nat)} {B : List Nat} {l l' : Array Bool} {i : Nat}
end

/-- The tables of math/bits and of strconv in their variables. -/
def TabOK (w : World) : Prop := (∀ j, j < 64 → w.cell? ⟨4, j, none⟩ = some (.int .u8 (Lib.deBruijn64tab.getD j 0))) ∧ Lib.TabIs Tryz.prog w "internal/strconv.uint64pow10" .u64 Lib.pow10Tab
theorem TabOK.below {w w' : World} (h : TabOK w) (hb : Below w.heap.size w w') : TabOK w' := ⟨fun j hj =>
  (hb.cell (World.block_lt_of_cell? w _ (h.1 j hj))).trans (h.1 j hj), Lib.tabBelow_of_tabIs h.2 w' hb⟩
theorem tb {w w1 W : World} (h : TabOK w) (k : Aside0 (Below w.heap.size w w1)) (ht : Below w.heap.size w w1 → Below w.heap.size w W := by (intro h; (repeat (first | (with_reducible first | exact h | apply below_alloc | apply pw_below_drewN | apply below_drew1 | refine below_set ?_ (Aside0.out (by assumption))) | exact h)))) : TabOK W := h.below (ht k.out)
theorem tb0 {w W : World} (h : TabOK w) (ht : Below w.heap.size w W := by (repeat (first | (with_reducible first | exact Below.refl _ _ | apply below_alloc | apply pw_below_drewN | apply below_drew1) | exact Below.refl _ _))) : TabOK W := h.below ht
theorem tt {w W : World} (h : Aside0 (TabOK w)) (ht : TabOK w → TabOK W := by first | exact (fun h => h) | (intro h; exact tb h (by assumption)) | (intro h; exact tb0 h)) : TabOK W := ht h.out

/-! ### Words of the third shortening -/
section
variable {w W : World} {a : Addr} {v v' u : Value} {g i : Nat}
theorem hx_ (h : Aside0 (Below w.heap.size w W)) (hx : w.cell? a = some v) : W.cell? a = some v := (h.out.cell (World.block_lt_of_cell? w _ hx)).trans hx
theorem od_ {p : Prop} [Decidable p] (h : decide p = true := by first | (with_reducible assumption) | assumption) : p := of_decide_eq_true h
end
section
variable {α : Type} {d : Kd α} {e base : Nat} {ok : Nat → Prop} {v : Value} {xs : List α} {w W : World}
end
/-! ### the first one in a row that is so -/
end Go.Proofs.YtkbffpadkdgbmaaGreatDoor.X
