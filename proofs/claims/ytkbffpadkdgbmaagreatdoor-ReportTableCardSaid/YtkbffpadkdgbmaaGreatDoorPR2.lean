/- The pure law ReportTable: the reference's table is the same text.
   Conditions: as each theorem's head says. -/
import Derived.Test.YtkbffpadkdgbmaaGreatDoorPR1
namespace Go.Proofs.YtkbffpadkdgbmaaGreatDoor.Pure
set_option linter.unusedVariables false
set_option linter.unusedSimpArgs false
open Go.RowKit Go.Proofs.YtkbffpadkdgbmaaGreatDoor.X Go.Proofs.YtkbffpadkdgbmaaGreatDoorW.PrintWords Go.Proofs.YtkbffpadkdgbmaaGreatDoorW.PrintLast Go.Proofs.YtkbffpadkdgbmaaGreatDoorW.PrintMore
def bsL (l : List UInt8) : ByteArray := ⟨l.toArray⟩
theorem bsL_size (l : List UInt8) : (bsL l).size = l.length := by
  show l.toArray.size = _
  simp
theorem bsL_app (a b : List UInt8) : bsL a ++ bsL b = bsL (a ++ b) := by
  apply ByteArray.ext
  rw [ByteArray.data_append]
  simp [bsL]
theorem bsL_of (s : ByteArray) : bsL s.data.toList = s := by
  apply ByteArray.ext
  simp [bsL]
theorem bsL_cell (a : List UInt8) (s : ByteArray) : bsL a ++ s = bsL (a ++ s.data.toList) := by
  rw [← bsL_app, bsL_of]
section
variable {l : List (List ByteArray)}
abbrev tx (l : List (List ByteArray)) (i : Nat) : List UInt8 := linesF (widths l) l i
theorem tx_succ {i : Nat} {r : List ByteArray} (hr : rd_L1 l i = r) : tx l (i + 1) = tx l i ++ (preF (widths l) r r.length ++ [10]) := by
  rw [tx, linesF, lineF, show rdOf [] l (i : Int) = r from hr]
/-- A row's bounds. -/
structure RowOk (l : List (List ByteArray)) (r : List ByteArray) (i : Nat) : Prop where
  li : i < l.length
  l4 : l.length ≤ 40
  rd : rd_L1 l i = r
  rn : r.length ≤ 20
  tl : (tx l i).length ≤ 280000
  pl : ∀ j, j ≤ r.length → (preF (widths l) r j).length ≤ 6000
  cw : ∀ j : Nat, j < r.length → 0 ≤ ((cellOf r j).size : Int) ∧ ((cellOf r j).size : Int) ≤ rdOf 0 (widths l) j ∧ rdOf 0 (widths l) j ≤ 100
theorem rowOk_of (h : smallF l = true) {i : Nat} (hi : i < l.length) : RowOk l (rd_L1 l i) i := by
  have hF := small_fits h
  have hm := rd_memR (rows := l) (x := (i : Int)) (by omega) (by omega)
  have hc := hF.c _ hm
  have hr := hF.r _ hm
  have hn := hF.n
  refine ⟨hi, hn, rfl, hr.1, ?_, fun j hj => ?_, fun j hj => ⟨by omega, hc j (by omega) (by have : j < (rdOf [] l (i : Int)).length := hj; omega)⟩⟩
  · have := lines_len hF i (by omega)
    show (linesF (widths l) l i).length ≤ 280000
    omega
  · have h1 : (rdOf [] l (i : Int)).length ≤ 20 := hr.1
    have h2 : j ≤ (rdOf [] l (i : Int)).length := hj
    have := pre_len hc j h2
    show (preF (widths l) (rdOf [] l (i : Int)) j).length ≤ 6000
    omega
theorem tab_l2 {i j : Nat} {A : List UInt8} {g : Nat} {R : ByteArray} (hA : A.length ≤ 400000) (hg : g ≤ 1000) (hj : j ≤ 100) (H : Ev (fun k => carrefourref29_Table.l1 k l (bsL (A ++ List.replicate g 32)) i ((j + 1 : Nat) : Int)) R) :
    ∀ c t : Nat, t + c = g → Ev (fun k => carrefourref29_Table.l2 k l (bsL (A ++ List.replicate t 32)) i j c) R
  | 0, t, ht => by
    obtain rfl : t = g := by omega
    exact Ev.step (fun k => by rw [carrefourref29_Table.l2, w64s (i := j) (by omega)]) (Ev.iten (by omega) H)
  | c + 1, t, ht => by
    have ih := tab_l2 hA hg hj H c (t + 1) (by omega)
    refine Ev.step (fun k => by rw [carrefourref29_Table.l2]) (Ev.itep (by omega) (Ev.itep ?_ ?_))
    · rw [bsL_size, List.length_append, List.length_replicate]
      omega
    · rw [show (⟨#[32]⟩ : ByteArray) = bsL [32] from rfl, bsL_app, List.append_assoc, ← List.replicate_succ', w64 (by omega) (by omega), show (((c + 1 : Nat) : Int) - 1) = (c : Int) by omega]
      exact ih
theorem tab_l1 {i : Nat} {r : List ByteArray} {R : ByteArray} (h : RowOk l r i) (H : Ev (fun k => carrefourref29_Table.l0 k l (bsL (tx l (i + 1))) ((i + 1 : Nat) : Int)) R) :
    ∀ c j : Nat, j + c = r.length → Ev (fun k => carrefourref29_Table.l1 k l (bsL (tx l i ++ preF (widths l) r j)) i j) R
  | 0, j, hj => by
    have h1 := h.li
    have h2 := h.tl
    have h3 := h.pl j (by omega)
    have h4 := h.l4
    obtain rfl : j = r.length := by omega
    refine Ev.step (fun k => by rw [carrefourref29_Table.l1, h.rd, w64s (i := i) (by omega)]) (Ev.itep (by omega) (Ev.itep (by omega) (Ev.iten (by omega) (Ev.itep ?_ ?_))))
    · rw [bsL_size, List.length_append]
      omega
    · rw [show (⟨#[10]⟩ : ByteArray) = bsL [10] from rfl, bsL_app, List.append_assoc, ← tx_succ h.rd]
      exact H
  | c + 1, j, hj => by
    have ih := tab_l1 h H c (j + 1) (by omega)
    have h1 := h.li
    have h2 := h.tl
    have h3 := h.pl j (by omega)
    have h4 := h.l4
    have h5 := h.rn
    obtain ⟨h6, h7, h8⟩ := h.cw j (by omega)
    obtain ⟨s, hs⟩ : ∃ s, rdOf ByteArray.empty r (j : Int) = s := ⟨_, rfl⟩
    rw [show cellOf r (j : Int) = s from hs] at h6 h7
    have hd : s.data.toList.length = s.size := Array.length_toList
    refine Ev.step (fun k => by rw [carrefourref29_Table.l1, h.rd, hs, bsL_cell]) (Ev.itep (by omega) (Ev.itep (by omega) (Ev.itep (by omega) (Ev.itep (by omega) (Ev.itep ?_ ?_)))))
    · rw [bsL_size, List.length_append]
      omega
    · rw [w64 (x := (r.length : Int) - 1) (by omega) (by omega)]
      by_cases hj1 : (j : Int) < (r.length : Int) - 1
      · refine Ev.itep hj1 (Ev.bind (wid_ev h.l4 j) ?_)
        rw [if_neg (by omega), w64 (x := rdOf 0 (widths l) j + 2) (by omega) (by omega), w64 (x := rdOf 0 (widths l) j + 2 - _) (by omega) (by omega)]
        have e : rdOf 0 (widths l) (j : Int) + 2 - (s.size : Int) = (((gapF (widths l) r j).toNat : Nat) : Int) := by
          rw [gapF, show cellOf r (j : Int) = s from hs]
          omega
        rw [e]
        have e2 : preF (widths l) r (j + 1) = preF (widths l) r j ++ s.data.toList ++ List.replicate (gapF (widths l) r j).toNat 32 := by
          rw [preF, cellF, if_pos hj1, show cellOf r (j : Int) = s from hs, List.append_assoc]
        rw [e2, ← List.append_assoc, ← List.append_assoc] at ih
        have := tab_l2 (l := l) (A := tx l i ++ preF (widths l) r j ++ s.data.toList) (g := (gapF (widths l) r j).toNat) (by rw [List.length_append, List.length_append]; omega) (by omega) (by omega) ih (gapF (widths l) r j).toNat 0 (by omega)
        simpa using this
      · refine Ev.iten hj1 ?_
        have e2 : preF (widths l) r (j + 1) = preF (widths l) r j ++ s.data.toList := by
          rw [preF, cellF, if_neg hj1, show cellOf r (j : Int) = s from hs, List.append_nil]
        rw [w64s (i := j) (by omega), List.append_assoc, ← e2]
        exact ih
theorem tab_l0 (h : smallF l = true) : ∀ c i : Nat, i + c = l.length → Ev (fun k => carrefourref29_Table.l0 k l (bsL (tx l i)) i) (bsL (tx l l.length))
  | 0, i, hi => by
    obtain rfl : i = l.length := by omega
    exact Ev.step (fun k => by rw [carrefourref29_Table.l0]) (Ev.iten (by omega) (Ev.eq rfl))
  | c + 1, i, hi => by
    have ih := tab_l0 h c (i + 1) (by omega)
    have h1 := rowOk_of h (i := i) (by omega)
    refine Ev.step (fun k => by rw [carrefourref29_Table.l0]) (Ev.itep (by omega) ?_)
    have := tab_l1 h1 ih (rd_L1 l i).length 0 (by omega)
    rwa [preF, List.append_nil] at this
theorem tab_ev (h : smallF l = true) : Ev (fun k => carrefourref29_Table.f k l) (bsL (tx l l.length)) := tab_l0 h l.length 0 (by omega)
end
theorem awake_ev {r : Bool} (h : true = r) : Ev (fun _ => carrefourlaw29_awake.f) r := h ▸ Ev.eq rfl
end Go.Proofs.YtkbffpadkdgbmaaGreatDoor.Pure
