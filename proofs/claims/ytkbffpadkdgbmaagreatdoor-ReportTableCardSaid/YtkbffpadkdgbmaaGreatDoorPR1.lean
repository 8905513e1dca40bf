/- The pure laws ReportTable and ReportPlaces: what the reference's loops come to.
   Conditions: as each theorem's head says. -/
import Derived.Test.YtkbffpadkdgbmaaGreatDoorX
namespace Go.Proofs.YtkbffpadkdgbmaaGreatDoor.Pure
set_option linter.unusedVariables false
set_option linter.unusedSimpArgs false
open Go.RowKit Go.Proofs.YtkbffpadkdgbmaaGreatDoor.X Go.Proofs.YtkbffpadkdgbmaaGreatDoorW.PrintWords Go.Proofs.YtkbffpadkdgbmaaGreatDoorW.PrintLast Go.Proofs.YtkbffpadkdgbmaaGreatDoorW.PrintMore
theorem Ev.eq {α : Type} {x : Option α} {r : α} (h : x = some r) : Ev (fun _ => x) r := ⟨0, fun _ _ => h⟩
theorem Ev.itep {α : Type} {c : Prop} [Decidable c] {A B : Nat → Option α} {r : α} (h : c) (k : Ev A r) : Ev (fun n => if c then A n else B n) r := by
  obtain ⟨K, k⟩ := k
  exact ⟨K, fun n hn => by show (if c then A n else B n) = some r; rw [if_pos h]; exact k n hn⟩
theorem Ev.iten {α : Type} {c : Prop} [Decidable c] {A B : Nat → Option α} {r : α} (h : ¬ c) (k : Ev B r) : Ev (fun n => if c then A n else B n) r := by
  obtain ⟨K, k⟩ := k
  exact ⟨K, fun n hn => by show (if c then A n else B n) = some r; rw [if_neg h]; exact k n hn⟩
theorem w64 {x : Int} (h0 : -9223372036854775808 ≤ x) (h1 : x < 9223372036854775808) : wrap64 x = x := by
  unfold wrap64; omega
theorem w64s {i : Nat} (h : i ≤ 1000000) : wrap64 ((i : Int) + 1) = ((i + 1 : Nat) : Int) := by
  rw [w64 (by omega) (by omega)]; rfl
theorem all_drop {α : Type} {p : α → Bool} {l : List α} (d : α) {i : Nat} (h : i < l.length) : (l.drop i).all p = (p (l.getD i d) && (l.drop (i + 1)).all p) := by
  rw [List.drop_eq_getElem_cons h, List.all_cons, List.getD_eq_getElem?_getD, List.getElem?_eq_getElem h]
  rfl
theorem fold_drop {α β : Type} {F : β → α → β} {l : List α} (d : α) {i : Nat} (h : i < l.length) (m : β) : (l.drop i).foldl F m = (l.drop (i + 1)).foldl F (F m (l.getD i d)) := by
  rw [List.drop_eq_getElem_cons h, List.foldl_cons, List.getD_eq_getElem?_getD, List.getElem?_eq_getElem h]
  rfl
/-! ### few -/
abbrev cellOk (c : ByteArray) : Bool := decide (c.size ≤ 100)
abbrev rowOk (r : List ByteArray) : Bool := decide (r.length ≤ 20) && r.all cellOk
theorem few_l1 {l : List (List ByteArray)} {i : Nat} {r : List ByteArray} {b : Bool} (hl : l.length ≤ 40) (hi : i < l.length) (hr : rd_L1 l i = r) (hn : r.length ≤ 20) (H : Ev (fun k => carrefourlaw29_few.l0 k l ((i + 1 : Nat) : Int)) b) : ∀ c j : Nat, j + c = r.length → Ev (fun k => carrefourlaw29_few.l1 k l i j) ((r.drop j).all cellOk && b)
  | 0, j, hj => by
    refine Ev.step (fun k => by rw [carrefourlaw29_few.l1, hr, w64s (i := i) (by omega)]) (Ev.itep (by omega) (Ev.itep (by omega) (Ev.iten (by omega) ?_)))
    rw [List.drop_eq_nil_of_le (by omega)]
    exact H
  | c + 1, j, hj => by
    have ih := few_l1 hl hi hr hn H c (j + 1) (by omega)
    refine Ev.step (fun k => by rw [carrefourlaw29_few.l1, hr, w64s (i := j) (by omega)]) (Ev.itep (by omega) (Ev.itep (by omega) (Ev.itep (by omega) (Ev.itep (by omega) ?_))))
    rw [all_drop ByteArray.empty (by omega)]
    have e : rdOf ByteArray.empty r (j : Int) = r.getD j ByteArray.empty := by rw [rdOf, Int.toNat_natCast]
    rw [e]
    by_cases hc : (r.getD j ByteArray.empty).size ≤ 100
    · refine Ev.iten (by omega) ?_
      rw [show cellOk (r.getD j ByteArray.empty) = true from decide_eq_true hc, Bool.true_and]
      exact ih
    · refine Ev.itep (by omega) (Ev.eq ?_)
      rw [show cellOk (r.getD j ByteArray.empty) = false from decide_eq_false hc]
      rfl
theorem few_l0 {l : List (List ByteArray)} (hl : l.length ≤ 40) : ∀ c i : Nat, i + c = l.length → Ev (fun k => carrefourlaw29_few.l0 k l i) ((l.drop i).all rowOk)
  | 0, i, hi => by
    refine Ev.step (fun k => by rw [carrefourlaw29_few.l0]) (Ev.iten (by omega) (Ev.eq ?_))
    rw [List.drop_eq_nil_of_le (by omega)]
    rfl
  | c + 1, i, hi => by
    have ih := few_l0 hl c (i + 1) (by omega)
    refine Ev.step (fun k => by rw [carrefourlaw29_few.l0]) (Ev.itep (by omega) (Ev.itep (by omega) ?_))
    rw [all_drop [] (by omega)]
    obtain ⟨r, hr⟩ : ∃ r, rd_L1 l i = r := ⟨_, rfl⟩
    rw [show l.getD i [] = r by rw [← hr, rd_L1, Int.toNat_natCast], hr]
    by_cases hn : r.length ≤ 20
    · refine Ev.iten (by omega) ?_
      have := few_l1 hl (by omega) hr hn ih r.length 0 (by omega)
      rw [show rowOk r = r.all cellOk by rw [rowOk, decide_eq_true hn, Bool.true_and]]
      simpa using this
    · refine Ev.itep (by omega) (Ev.eq ?_)
      rw [rowOk, decide_eq_false hn]
      rfl
theorem few_ev (l : List (List ByteArray)) : Ev (fun k => carrefourlaw29_few.f k l) (smallF l) := by
  unfold carrefourlaw29_few.f smallF
  by_cases hl : l.length ≤ 40
  · rw [decide_eq_true hl, Bool.true_and]
    exact Ev.iten (by omega) (few_l0 hl l.length 0 (by omega))
  · rw [decide_eq_false hl]
    exact Ev.itep (by omega) (Ev.eq rfl)
/-! ### the reference's width -/
abbrev wStep (x : Int) (m : Int) (r : List ByteArray) : Int := if x < (r.length : Int) then max m ((cellOf r x).size : Int) else m
theorem wid_l0 {l : List (List ByteArray)} {x : Int} (hl : l.length ≤ 40) (hx : 0 ≤ x) : ∀ (c i : Nat) (m : Int), i + c = l.length → Ev (fun k => carrefourref29_Width.l0 k l x m i) ((l.drop i).foldl (wStep x) m)
  | 0, i, m, hi => by
    refine Ev.step (fun k => by rw [carrefourref29_Width.l0]) (Ev.iten (by omega) (Ev.step (fun k => by rw [carrefourref29_Width.j1]) (Ev.iten (by decide) (Ev.eq ?_))))
    rw [List.drop_eq_nil_of_le (by omega)]
    rfl
  | c + 1, i, m, hi => by
    refine Ev.step (fun k => by rw [carrefourref29_Width.l0]) (Ev.itep (by omega) (Ev.step (fun k => by rw [carrefourref29_Width.j1, w64s (by omega)]) (Ev.itep (decide_eq_true hx) (Ev.itep (by omega) (Ev.itep (by omega) ?_)))))
    rw [fold_drop [] (by omega)]
    obtain ⟨r, hr⟩ : ∃ r, rd_L1 l i = r := ⟨_, rfl⟩
    rw [show l.getD i [] = r by rw [← hr, rd_L1, Int.toNat_natCast], hr]
    by_cases c1 : x < (r.length : Int)
    · refine Ev.itep c1 (Ev.itep hx ?_)
      rw [show wStep x m r = mx m ((rdOf ByteArray.empty r x).size : Int) by unfold wStep mx cellOf; rw [if_pos c1]; split <;> omega]
      exact wid_l0 hl hx c (i + 1) _ (by omega)
    · refine Ev.iten c1 ?_
      rw [show wStep x m r = m by unfold wStep; rw [if_neg c1]]
      exact wid_l0 hl hx c (i + 1) _ (by omega)
theorem wid_ev {l : List (List ByteArray)} (hl : l.length ≤ 40) (x : Int) : Ev (fun k => carrefourref29_Width.f k l x) (if x < 0 then 0 else rdOf 0 (widths l) x) := by
  by_cases hx : 0 ≤ x
  · rw [if_neg (by omega), widths_at l hx]
    exact wid_l0 hl hx l.length 0 0 (by omega)
  · rw [if_pos (by omega)]
    unfold carrefourref29_Width.f
    refine Ev.step (fun k => by rw [carrefourref29_Width.l0]) ?_
    by_cases c : (0 : Int) < (l.length : Int)
    · refine Ev.itep c (Ev.step (fun k => by rw [carrefourref29_Width.j1]) (Ev.iten ?_ (Ev.eq rfl)))
      rw [decide_eq_false (by omega)]
      decide
    · exact Ev.iten c (Ev.step (fun k => by rw [carrefourref29_Width.j1]) (Ev.iten (by decide) (Ev.eq rfl)))
end Go.Proofs.YtkbffpadkdgbmaaGreatDoor.Pure
