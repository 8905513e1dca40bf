/- The pure laws ReportTable and ReportPlaces: few and small, bytes.
   Conditions: as each theorem's head says. -/
import Derived.Test.YtkbffpadkdgbmaaGreatDoorX
namespace Go.Proofs.YtkbffpadkdgbmaaGreatDoor.Pure
set_option linter.unusedVariables false
set_option linter.unusedSimpArgs false
open Go.RowKit Go.Proofs.YtkbffpadkdgbmaaGreatDoor.X Go.Proofs.YtkbffpadkdgbmaaGreatDoorW.PrintWords Go.Proofs.YtkbffpadkdgbmaaGreatDoorW.PrintLast Go.Proofs.YtkbffpadkdgbmaaGreatDoorW.PrintMore
theorem Ev.eq {α : Type} {x : Option α} {r : α} (h : x = some r) : Ev (fun _ => x) r := ⟨0, fun _ _ => h⟩
theorem Ev.itep {α : Type} {c : Prop} [Decidable c] {A B : Nat → Option α} {r : α} (h : c) (k : Ev A r) : Ev (fun n => if c then A n else B n) r := by
  obtain ⟨K, k⟩ := k
  exact ⟨K, fun n hn => by show (if c then A n else B n) = some r; rw [if_pos h]; exact k n hn⟩
theorem Ev.iten {α : Type} {c : Prop} [Decidable c] {A B : Nat → Option α} {r : α} (h : ¬ c) (k : Ev B r) : Ev (fun n => if c then A n else B n) r := by
  obtain ⟨K, k⟩ := k
  exact ⟨K, fun n hn => by show (if c then A n else B n) = some r; rw [if_neg h]; exact k n hn⟩
theorem w64 {x : Int} (h0 : -9223372036854775808 ≤ x) (h1 : x < 9223372036854775808) : wrap64 x = x := by
  unfold wrap64; omega
theorem w64s {i : Nat} (h : i ≤ 1000000) : wrap64 ((i : Int) + 1) = ((i + 1 : Nat) : Int) := by
  rw [w64 (by omega) (by omega)]; rfl
theorem all_drop {α : Type} {p : α → Bool} {l : List α} (d : α) {i : Nat} (h : i < l.length) : (l.drop i).all p = (p (l.getD i d) && (l.drop (i + 1)).all p) := by
  rw [List.drop_eq_getElem_cons h, List.all_cons, List.getD_eq_getElem?_getD, List.getElem?_eq_getElem h]
  rfl
theorem fold_drop {α β : Type} {F : β → α → β} {l : List α} (d : α) {i : Nat} (h : i < l.length) (m : β) : (l.drop i).foldl F m = (l.drop (i + 1)).foldl F (F m (l.getD i d)) := by
  rw [List.drop_eq_getElem_cons h, List.foldl_cons, List.getD_eq_getElem?_getD, List.getElem?_eq_getElem h]
  rfl
/-! ### few -/
abbrev cellOk (c : ByteArray) : Bool := decide (c.size ≤ 100)
abbrev rowOk (r : List ByteArray) : Bool := decide (r.length ≤ 20) && r.all cellOk
theorem few_l1 {l : List (List ByteArray)} {i : Nat} {r : List ByteArray} {b : Bool} (hl : l.length ≤ 40) (hi : i < l.length) (hr : rd_L1 l i = r) (hn : r.length ≤ 20) (H : Ev (fun k => carrefourlaw29_few.l0 k l ((i + 1 : Nat) : Int)) b) : ∀ c j : Nat, j + c = r.length → Ev (fun k => carrefourlaw29_few.l1 k l i j) ((r.drop j).all cellOk && b)
  | 0, j, hj => by
    refine Ev.step (fun k => by rw [carrefourlaw29_few.l1, hr, w64s (i := i) (by omega)]) (Ev.itep (by omega) (Ev.itep (by omega) (Ev.iten (by omega) ?_)))
    rw [List.drop_eq_nil_of_le (by omega)]
    exact H
  | c + 1, j, hj => by
    have ih := few_l1 hl hi hr hn H c (j + 1) (by omega)
    refine Ev.step (fun k => by rw [carrefourlaw29_few.l1, hr, w64s (i := j) (by omega)]) (Ev.itep (by omega) (Ev.itep (by omega) (Ev.itep (by omega) (Ev.itep (by omega) ?_))))
    rw [all_drop ByteArray.empty (by omega)]
    have e : rdOf ByteArray.empty r (j : Int) = r.getD j ByteArray.empty := by rw [rdOf, Int.toNat_natCast]
    rw [e]
    by_cases hc : (r.getD j ByteArray.empty).size ≤ 100
    · refine Ev.iten (by omega) ?_
      rw [show cellOk (r.getD j ByteArray.empty) = true from decide_eq_true hc, Bool.true_and]
      exact ih
    · refine Ev.itep (by omega) (Ev.eq ?_)
      rw [show cellOk (r.getD j ByteArray.empty) = false from decide_eq_false hc]
      rfl
theorem few_l0 {l : List (List ByteArray)} (hl : l.length ≤ 40) : ∀ c i : Nat, i + c = l.length → Ev (fun k => carrefourlaw29_few.l0 k l i) ((l.drop i).all rowOk)
  | 0, i, hi => by
    refine Ev.step (fun k => by rw [carrefourlaw29_few.l0]) (Ev.iten (by omega) (Ev.eq ?_))
    rw [List.drop_eq_nil_of_le (by omega)]
    rfl
  | c + 1, i, hi => by
    have ih := few_l0 hl c (i + 1) (by omega)
    refine Ev.step (fun k => by rw [carrefourlaw29_few.l0]) (Ev.itep (by omega) (Ev.itep (by omega) ?_))
    rw [all_drop [] (by omega)]
    obtain ⟨r, hr⟩ : ∃ r, rd_L1 l i = r := ⟨_, rfl⟩
    rw [show l.getD i [] = r by rw [← hr, rd_L1, Int.toNat_natCast], hr]
    by_cases hn : r.length ≤ 20
    · refine Ev.iten (by omega) ?_
      have := few_l1 hl (by omega) hr hn ih r.length 0 (by omega)
      rw [show rowOk r = r.all cellOk by rw [rowOk, decide_eq_true hn, Bool.true_and]]
      simpa using this
    · refine Ev.itep (by omega) (Ev.eq ?_)
      rw [rowOk, decide_eq_false hn]
      rfl
theorem few_ev (l : List (List ByteArray)) : Ev (fun k => carrefourlaw29_few.f k l) (smallF l) := by
  unfold carrefourlaw29_few.f smallF
  by_cases hl : l.length ≤ 40
  · rw [decide_eq_true hl, Bool.true_and]
    exact Ev.iten (by omega) (few_l0 hl l.length 0 (by omega))
  · rw [decide_eq_false hl]
    exact Ev.itep (by omega) (Ev.eq rfl)
def bsL (l : List UInt8) : ByteArray := ⟨l.toArray⟩
theorem bsL_size (l : List UInt8) : (bsL l).size = l.length := by
  show l.toArray.size = _
  simp
theorem bsL_app (a b : List UInt8) : bsL a ++ bsL b = bsL (a ++ b) := by
  apply ByteArray.ext
  rw [ByteArray.data_append]
  simp [bsL]
theorem bsL_of (s : ByteArray) : bsL s.data.toList = s := by
  apply ByteArray.ext
  simp [bsL]
theorem bsL_cell (a : List UInt8) (s : ByteArray) : bsL a ++ s = bsL (a ++ s.data.toList) := by
  rw [← bsL_app, bsL_of]
section
variable {l : List (List ByteArray)}
abbrev tx (l : List (List ByteArray)) (i : Nat) : List UInt8 := linesF (widths l) l i
theorem tx_succ {i : Nat} {r : List ByteArray} (hr : rd_L1 l i = r) : tx l (i + 1) = tx l i ++ (preF (widths l) r r.length ++ [10]) := by
  rw [tx, linesF, lineF, show rdOf [] l (i : Int) = r from hr]
/-- A row's bounds. -/
structure RowOk (l : List (List ByteArray)) (r : List ByteArray) (i : Nat) : Prop where
  li : i < l.length
  l4 : l.length ≤ 40
  rd : rd_L1 l i = r
  rn : r.length ≤ 20
  tl : (tx l i).length ≤ 280000
  pl : ∀ j, j ≤ r.length → (preF (widths l) r j).length ≤ 6000
  cw : ∀ j : Nat, j < r.length → 0 ≤ ((cellOf r j).size : Int) ∧ ((cellOf r j).size : Int) ≤ rdOf 0 (widths l) j ∧ rdOf 0 (widths l) j ≤ 100
theorem rowOk_of (h : smallF l = true) {i : Nat} (hi : i < l.length) : RowOk l (rd_L1 l i) i := by
  have hF := small_fits h
  have hm := rd_memR (rows := l) (x := (i : Int)) (by omega) (by omega)
  have hc := hF.c _ hm
  have hr := hF.r _ hm
  have hn := hF.n
  refine ⟨hi, hn, rfl, hr.1, ?_, fun j hj => ?_, fun j hj => ⟨by omega, hc j (by omega) (by have : j < (rdOf [] l (i : Int)).length := hj; omega)⟩⟩
  · have := lines_len hF i (by omega)
    show (linesF (widths l) l i).length ≤ 280000
    omega
  · have h1 : (rdOf [] l (i : Int)).length ≤ 20 := hr.1
    have h2 : j ≤ (rdOf [] l (i : Int)).length := hj
    have := pre_len hc j h2
    show (preF (widths l) (rdOf [] l (i : Int)) j).length ≤ 6000
    omega
end
theorem awake_ev {r : Bool} (h : true = r) : Ev (fun _ => carrefourlaw29_awake.f) r := h ▸ Ev.eq rfl
end Go.Proofs.YtkbffpadkdgbmaaGreatDoor.Pure
