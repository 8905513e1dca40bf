/- The pure law OrderRows: which orders a row may have.
   Conditions: none beyond the kinds of the arguments. -/
import Derived.Test.YtnhnmbfhepeadaaP13e
namespace Go.Proofs.Ytnhnmbfhepeadaa.Pure
set_option linter.unusedVariables false
open Go.RowKit Go.Proofs.Ytnhnmbfhepeadaa.X Go.Proofs.YtnhnmbfhepeadaaW.PrintWords Go.Proofs.YtnhnmbfhepeadaaW.PrintLast
def rowsZ (b : Bool) (n : Int) : List (List Int) := if 0 ≤ n ∧ n ≤ 8 then (if b = true then (List.range (fac n.toNat)).map (nth n.toNat (up n.toNat)) else [nth n.toNat (up n.toNat) 0]) else []
theorem nth_zero (n : Nat) : nth n (up n) 0 = up n := by
  have := nth_of_rank (p := up n) (k := 0) (by rw [up_length]) (rank_up (up_Up n))
  rw [up_length] at this
  exact this.symm
theorem Rows_l0 (n : Nat) (hn : n ≤ 8) (d : Nat) : ∀ i : Nat, fac n = i + 1 + d → Ev (fun k => order_Rows.l0 k true (nth n (up n) i) ((List.range (i + 1)).map (nth n (up n)))) ((List.range (fac n)).map (nth n (up n))) := by
  have hf := fac_le8 hn
  have nx : ∀ i : Nat, i < fac n → nextZ (nth n (up n) i) = if i + 1 < fac n then (nth n (up n) (i + 1), true) else ([], false) := by
    intro i hi
    have hs := nth_spec n (up n) i (up_Up _) (up_length _) hi
    have hl : (nth n (up n) i).length = n := by rw [hs.1.length_eq, up_length]
    have hr : rtB (nth n (up n) i) = true := rtB_iff.2 ⟨by omega, by rw [hl]; exact hs.1⟩
    unfold nextZ
    rw [hl, hs.2, hr]
    by_cases h : i + 1 < fac n
    · rw [if_pos ⟨rfl, h⟩, if_pos h]
    · rw [if_neg (fun e => h e.2), if_neg h]
  induction d with
  | zero =>
    intro i hi
    have hx := nx i (by omega)
    rw [if_neg (by omega)] at hx
    have H : Ev (fun k => (order_Next.f k (nth n (up n) i)).bind fun t => if t.2 = true then (if ((List.range (i + 1)).map (nth n (up n))).length < 5864062014805 then order_Rows.l0 k true t.1 ((List.range (i + 1)).map (nth n (up n)) ++ [t.1]) else none) else some ((List.range (i + 1)).map (nth n (up n)))) ((List.range (fac n)).map (nth n (up n))) := by
      refine Ev.bind (Next_ev _) ?_
      rw [hx, show fac n = i + 1 by omega]
      exact Ev.iten (by decide) (Ev.now _)
    refine Ev.step (fun k => ?_) H
    simp only [order_Rows.l0]
    rw [if_pos trivial]
  | succ d ih =>
    intro i hi
    have hx := nx i (by omega)
    rw [if_pos (by omega)] at hx
    have H : Ev (fun k => (order_Next.f k (nth n (up n) i)).bind fun t => if t.2 = true then (if ((List.range (i + 1)).map (nth n (up n))).length < 5864062014805 then order_Rows.l0 k true t.1 ((List.range (i + 1)).map (nth n (up n)) ++ [t.1]) else none) else some ((List.range (i + 1)).map (nth n (up n)))) ((List.range (fac n)).map (nth n (up n))) := by
      refine Ev.bind (Next_ev _) ?_
      rw [hx]
      refine Ev.itep rfl (Ev.itep (by rw [List.length_map, List.length_range]; omega) ?_)
      have := ih (i + 1) (by omega)
      rw [List.range_succ, List.map_append] at this
      exact this
    refine Ev.step (fun k => ?_) H
    simp only [order_Rows.l0]
    rw [if_pos trivial]
theorem Rows_ev (b : Bool) (n : Int) : Ev (fun k => order_Rows.f k b n) (rowsZ b n) := by
  unfold order_Rows.f rowsZ
  by_cases h : 0 ≤ n ∧ n ≤ 8
  · obtain ⟨h0, h1⟩ := h
    have hw : order_within.f n = some true := by unfold order_within.f; rw [if_pos h0, decide_eq_true h1]
    refine Ev.bindc hw (Ev.itep rfl (Ev.bind (rising_ev h0 h1) ?_))
    rw [if_pos ⟨h0, h1⟩]
    obtain ⟨m, rfl⟩ := Int.eq_ofNat_of_zero_le h0
    rw [Int.toNat_natCast]
    cases b with
    | false =>
      rw [if_neg (by decide), nth_zero]
      refine Ev.step (f := fun _ => some [up m]) (fun k => ?_) (Ev.now _)
      simp only [order_Rows.l0]
      rw [if_neg (by decide)]
    | true =>
      rw [if_pos rfl]
      have hp := fac_pos m
      have := Rows_l0 m (by omega) (fac m - 1) 0 (by omega)
      rw [nth_zero] at this
      simpa [nth_zero] using this
  · rw [if_neg h]
    by_cases h0 : 0 ≤ n
    · have hw : order_within.f n = some false := by unfold order_within.f; rw [if_pos h0, decide_eq_false (by omega)]
      exact Ev.bindc hw (Ev.iten (by decide) (Ev.now _))
    · have hw : order_within.f n = some false := by unfold order_within.f; rw [if_neg h0]
      exact Ev.bindc hw (Ev.iten (by decide) (Ev.now _))
theorem RRows_ev (b : Bool) (n : Int) : Ev (fun k => carrefourref13_Rows.f k b n) (rowsZ b n) := by
  unfold carrefourref13_Rows.f
  refine Ev.bind (Orders_ev n) ?_
  by_cases h : 0 ≤ n ∧ n ≤ 8
  · have eo : ordsZ n = (List.range (fac n.toNat)).map (nth n.toNat (up n.toNat)) := by unfold ordsZ; rw [if_pos h, ords_eq]
    have hp := fac_pos n.toNat
    rw [eo]
    cases b with
    | true =>
      have er : rowsZ true n = (List.range (fac n.toNat)).map (nth n.toNat (up n.toNat)) := by unfold rowsZ; rw [if_pos h]; rfl
      rw [er]
      exact Ev.itep rfl (Ev.now _)
    | false =>
      have er : rowsZ false n = [nth n.toNat (up n.toNat) 0] := by unfold rowsZ; rw [if_pos h, if_neg (by decide)]
      rw [er]
      refine Ev.iten (by decide) ?_
      obtain ⟨u, hu⟩ : ∃ u, fac n.toNat = u + 1 := ⟨fac n.toNat - 1, by omega⟩
      rw [hu, List.range_succ_eq_map, List.map_cons]
      by_cases h2 : (((nth n.toNat (up n.toNat) 0 :: List.map (nth n.toNat (up n.toNat)) (List.map Nat.succ (List.range u))).length : Nat) : Int) > 1
      · refine Ev.itep h2 (Ev.itep (by omega) ?_)
        exact Ev.now _
      · refine Ev.iten h2 ?_
        have : u = 0 := by simp at h2; omega
        subst this
        exact Ev.now _
  · have eo : ordsZ n = [] := by unfold ordsZ; rw [if_neg h]
    have er : rowsZ b n = [] := by unfold rowsZ; rw [if_neg h]
    rw [eo, er]
    cases b with
    | true => exact Ev.itep rfl (Ev.now _)
    | false => exact Ev.iten (by decide) (Ev.iten (by decide) (Ev.now _))
theorem rows_small (b : Bool) (n : Int) : (rowsZ b n).length ≤ 40320 ∧ ∀ p ∈ rowsZ b n, p.length ≤ 8 := by
  unfold rowsZ
  split
  · rename_i h
    have hf := fac_le8 (m := n.toNat) (by omega)
    have hl : ∀ i, i < fac n.toNat → (nth n.toNat (up n.toNat) i).length ≤ 8 := by
      intro i hi
      rw [(nth_spec n.toNat (up n.toNat) i (up_Up _) (up_length _) hi).1.length_eq, up_length]; omega
    split
    · refine ⟨by rw [List.length_map, List.length_range]; exact hf, fun p hp => ?_⟩
      obtain ⟨i, hi, rfl⟩ := List.mem_map.1 hp
      exact hl i (List.mem_range.1 hi)
    · refine ⟨by simp, fun p hp => ?_⟩
      rw [List.mem_singleton] at hp
      rw [hp]; exact hl 0 (fac_pos _)
  · exact ⟨by simp, fun p hp => by cases hp⟩
theorem Law_l0 (a : List (List Int)) (hl : a.length ≤ 40320) (hr : ∀ p ∈ a, p.length ≤ 8) (d : Nat) : ∀ i : Nat, a.length = i + d → Ev (fun k => carrefourlaw13_OrderRows.l0 k a a (i : Int)) true := by
  have aw : Ev (fun q => (carrefourlaw13_awake.f q).bind fun t => some t) true := Ev.bind awake13_ev (Ev.now _)
  induction d with
  | zero =>
    intro i hi
    refine Ev.step (fun k => ?_) aw
    simp only [carrefourlaw13_OrderRows.l0]
    rw [if_neg (by omega)]
  | succ d ih =>
    intro i hi
    have hlt : i < a.length := by omega
    have hm : rd_L1 a (i : Int) ∈ a := by
      unfold rd_L1; rw [Int.toNat_natCast, List.getD_eq_getElem?_getD, List.getElem?_eq_getElem hlt]; exact List.getElem_mem hlt
    have h8 := hr _ hm
    have g1 : (i : Int) < (a.length : Int) := by omega
    have g2 : (0 : Int) ≤ (i : Int) := by omega
    have hw : wrap64 ((i : Int) + 1) = ((i + 1 : Nat) : Int) := by clear h8; rw [w64 (by omega) (by omega)]; omega
    have H : Ev (fun k => (carrefourref13_Same.f k (rd_L1 a (i : Int)) (rd_L1 a (i : Int))).bind fun t172 => (if t172 = true then (carrefourlaw13_OrderRows.l0 k a a ((i + 1 : Nat) : Int)) else (some false))) true :=
      Ev.bind (Same_ev _ _ (Nat.lt_of_le_of_lt h8 (by decide))) (Ev.itep (decide_eq_true rfl) (ih (i + 1) (by clear hw h8; omega)))
    refine Ev.step (fun k => ?_) H
    simp only [carrefourlaw13_OrderRows.l0]
    rw [if_pos g1, if_pos g2, if_pos g1, hw]
theorem OrderRows (b : Bool) (n : Int) (hn : (Lit.int .i64 n).wf = true) : ∃ q, carrefourlaw13_OrderRows.f q b n = some true := by
  suffices h : Ev (fun q => carrefourlaw13_OrderRows.f q b n) true by obtain ⟨K, h⟩ := h; exact ⟨K, h K (Nat.le_refl _)⟩
  unfold carrefourlaw13_OrderRows.f
  obtain ⟨hs, hr⟩ := rows_small b n
  have go : Ev (fun q => carrefourlaw13_OrderRows.j0 q b n false) true := by
    have H : Ev (fun k => (order_Rows.f k b n).bind fun t164 => ((carrefourref13_Rows.f k b n).bind fun t167 => (if (t164.length : Int) = (t167.length : Int) then (carrefourlaw13_OrderRows.l0 k t164 t167 0) else (some false)))) true :=
      Ev.bind (Rows_ev b n) (Ev.bind (RRows_ev b n) (Ev.itep rfl (Law_l0 _ hs hr (rowsZ b n).length 0 (by omega))))
    refine Ev.step (fun k => ?_) H
    simp only [carrefourlaw13_OrderRows.j0]
    rw [if_neg (by decide)]
  have yes : Ev (fun q => carrefourlaw13_OrderRows.j0 q b n true) true := by
    refine Ev.step (f := fun _ => some true) (fun k => ?_) (Ev.now _)
    simp only [carrefourlaw13_OrderRows.j0]
    rw [if_pos trivial]
  have any : ∀ x, Ev (fun q => carrefourlaw13_OrderRows.j0 q b n x) true := fun x => by cases x; exact go; exact yes
  by_cases h5 : n > 5
  · exact Ev.itep h5 (any _)
  · exact Ev.iten h5 go
end Go.Proofs.Ytnhnmbfhepeadaa.Pure
