/- The next order, and where each number stands.
   Conditions: as each theorem's head says. -/
import Derived.Test.YtnhnmbfhepeadaaP13d
import Derived.KernelRfl
namespace Go.Proofs.Ytnhnmbfhepeadaa.Pure
set_option linter.unusedVariables false
open Go.RowKit Go.Proofs.Ytnhnmbfhepeadaa.X Go.Proofs.YtnhnmbfhepeadaaW.PrintWords Go.Proofs.YtnhnmbfhepeadaaW.PrintLast Go.Proofs.YtnhnmbfhepeadaaW.PrintMore

theorem Reverse_ev : ∀ (d : List Int), d.length ≤ 8 → Ev (fun k => slices_Reverse_int_int.f k d) d.reverse
  | [], _ => Ev.at_ (slices_Reverse_int_int.mono _) 10 (by kernel_rfl)
  | [a], _ => Ev.at_ (slices_Reverse_int_int.mono _) 10 (by kernel_rfl)
  | [a, b], _ => Ev.at_ (slices_Reverse_int_int.mono _) 10 (by kernel_rfl)
  | [a, b, c], _ => Ev.at_ (slices_Reverse_int_int.mono _) 10 (by kernel_rfl)
  | [a, b, c, d], _ => Ev.at_ (slices_Reverse_int_int.mono _) 10 (by kernel_rfl)
  | [a, b, c, d, e], _ => Ev.at_ (slices_Reverse_int_int.mono _) 10 (by kernel_rfl)
  | [a, b, c, d, e, f], _ => Ev.at_ (slices_Reverse_int_int.mono _) 10 (by kernel_rfl)
  | [a, b, c, d, e, f, g], _ => Ev.at_ (slices_Reverse_int_int.mono _) 10 (by kernel_rfl)
  | [a, b, c, d, e, f, g, h], _ => Ev.at_ (slices_Reverse_int_int.mono _) 10 (by kernel_rfl)
  | a :: b :: c :: d :: e :: f :: g :: h :: i :: t, hl => by simp only [List.length_cons] at hl; omega
/-- The next order: none behind the last one. -/
def nextZ (p : List Int) : List Int × Bool := if rtB p = true ∧ rank p + 1 < fac p.length then (nth p.length (up p.length) (rank p + 1), true) else ([], false)
theorem next_is {p r : List Int} (h8 : p.length ≤ 8) (hp : p.Perm (up p.length)) (hr : r.Perm p) (hk : rank r = rank p + 1) : nextZ p = (r, true) := by
  have hlen := hr.length_eq
  have hl := rank_lt r
  rw [hlen] at hl
  have e := nth_of_rank (p := r) (k := rank p + 1) (by rw [hlen]; exact hr.trans hp) hk
  rw [hlen] at e
  unfold nextZ
  rw [if_pos ⟨rtB_iff.2 ⟨h8, hp⟩, by omega⟩, ← e]
/-- A row, split at two places. -/
theorem split2 {p : List Int} {i k : Nat} (hi : i < k) (hk : k < p.length) : p = p.take i ++ p.getD i 0 :: ((p.drop (i + 1)).take (k - i - 1) ++ p.getD k 0 :: p.drop (k + 1)) := by
  have e1 : p = p.take i ++ p.getD i 0 :: p.drop (i + 1) := by rw [getD_get (by omega), List.getElem_cons_drop, List.take_append_drop]
  have e2 : p.drop (i + 1) = (p.drop (i + 1)).take (k - i - 1) ++ p.getD k 0 :: p.drop (k + 1) := by
    have e3 : (p.drop (i + 1)).drop (k - i - 1) = p.getD k 0 :: p.drop (k + 1) := by
      rw [List.drop_drop, show i + 1 + (k - i - 1) = k by omega, getD_get hk]; exact List.drop_eq_getElem_cons hk
    rw [← e3, List.take_append_drop]
  conv => lhs; rw [e1, e2]
theorem set2 (a d1 d2 : List Int) (x y : Int) : (((a ++ x :: (d1 ++ y :: d2)).set a.length y).set (a.length + 1 + d1.length) x) = a ++ y :: (d1 ++ x :: d2) := by
  rw [List.set_append_right _ _ (Nat.le_refl _), Nat.sub_self, List.set_cons_zero, List.set_append_right _ _ (by omega), show a.length + 1 + d1.length - a.length = d1.length + 1 by omega, List.set_cons_succ, List.set_append_right _ _ (Nat.le_refl _), Nat.sub_self, List.set_cons_zero]
theorem Next_l1 (p : List Int) (h8 : p.length ≤ 8) (hp : p.Perm (up p.length)) (i : Nat) (hi : i + 1 < p.length) (hdn : (p.drop (i + 1)).Pairwise (· > ·)) (hlt : p.getD i 0 < p.getD (i + 1) 0) (d : Nat) :
    ∀ (k : Nat), k = i + 1 + d → k < p.length → (∀ z ∈ p.drop (k + 1), z < p.getD i 0) → Ev (fun q => order_Next.l1 q (i : Int) p (k : Int)) (nextZ p) := by
  have hpn : p.Nodup := (List.Perm.nodup_iff hp).2 (up_nodup _)
  have hwi : wrap64 ((i : Int) + 1) = ((i + 1 : Nat) : Int) := by rw [w64 (by omega) (by omega)]; omega
  have fin : ∀ (k : Nat), i + 1 ≤ k → k < p.length → (∀ z ∈ p.drop (k + 1), z < p.getD i 0) → p.getD i 0 < p.getD k 0 → Ev (fun q => order_Next.l1 q (i : Int) p (k : Int)) (nextZ p) := by
    intro k hik hk hz hgt
    have es := split2 (p := p) (i := i) (k := k) (by omega) hk
    have hal : (p.take i).length = i := by rw [List.length_take]; omega
    have hdl : ((p.drop (i + 1)).take (k - i - 1)).length = k - i - 1 := by rw [List.length_take, List.length_drop]; omega
    have ed : p.drop (i + 1) = (p.drop (i + 1)).take (k - i - 1) ++ p.getD k 0 :: p.drop (k + 1) := by
      have e3 : (p.drop (i + 1)).drop (k - i - 1) = p.getD k 0 :: p.drop (k + 1) := by
        rw [List.drop_drop, show i + 1 + (k - i - 1) = k by omega, getD_get hk]; exact List.drop_eq_getElem_cons hk
      rw [← e3, List.take_append_drop]
    generalize ha : p.take i = a at *
    generalize hx : p.getD i 0 = x at *
    generalize hy : p.getD k 0 = y at *
    generalize hd1 : (p.drop (i + 1)).take (k - i - 1) = d1 at *
    generalize hd2 : p.drop (k + 1) = d2 at *
    have eset : (p.set i y).set k x = a ++ y :: (d1 ++ x :: d2) := by
      conv => lhs; rw [es]
      have := set2 a d1 d2 x y
      rw [hal, hdl, show i + 1 + (k - i - 1) = k by omega] at this
      exact this
    have etake : ((p.set i y).set k x).take (i + 1) = a ++ [y] := by
      rw [eset, List.append_cons, List.take_append_of_le_length (by simp; omega), List.take_of_length_le (by simp; omega)]
    have edrop : ((p.set i y).set k x).drop (i + 1) = d1 ++ x :: d2 := by
      rw [eset, List.append_cons, List.drop_append_of_le_length (by simp; omega), List.drop_eq_nil_of_le (by simp; omega), List.nil_append]
    have hlen : (d1 ++ x :: d2).length ≤ 8 := by
      have h1 : (p.drop (i + 1)).length = p.length - (i + 1) := List.length_drop
      rw [ed] at h1
      simp only [List.length_append, List.length_cons] at h1 ⊢
      omega
    have hperm : (a ++ (y :: (d1 ++ x :: d2).reverse)).Perm p := by
      rw [es]
      refine List.Perm.append_left a ?_
      refine (List.Perm.cons y (List.reverse_perm _)).trans ?_
      have h1 : (y :: (d1 ++ x :: d2)).Perm (y :: x :: (d1 ++ d2)) := List.Perm.cons y List.perm_middle
      have h2 : (x :: (d1 ++ y :: d2)).Perm (x :: y :: (d1 ++ d2)) := List.Perm.cons x List.perm_middle
      exact h1.trans ((List.Perm.swap x y _).trans h2.symm)
    have hrank : rank (a ++ (y :: (d1 ++ x :: d2).reverse)) = rank p + 1 := by
      have hs := rank_step (x := x) (y := y) (d1 := d1) (d2 := d2) (ed ▸ hdn) hgt hz
      have hq : (x :: (d1 ++ y :: d2)).Perm (y :: (d1 ++ x :: d2).reverse) := by
        refine List.Perm.symm ((List.Perm.cons y (List.reverse_perm _)).trans ?_)
        have h1 : (y :: (d1 ++ x :: d2)).Perm (y :: x :: (d1 ++ d2)) := List.Perm.cons y List.perm_middle
        have h2 : (x :: (d1 ++ y :: d2)).Perm (x :: y :: (d1 ++ d2)) := List.Perm.cons x List.perm_middle
        exact h1.trans ((List.Perm.swap x y _).trans h2.symm)
      obtain ⟨h1, h2⟩ := rank_append a hq (by omega)
      conv => rhs; rw [es]
      omega
    rw [next_is h8 hp hperm hrank]
    have g1 : (0 : Int) ≤ (k : Int) := by omega
    have g2 : (k : Int) < (p.length : Int) := by omega
    have g3 : (0 : Int) ≤ (i : Int) := by omega
    have g4 : (i : Int) < (p.length : Int) := by omega
    have g5 : (0 : Int) ≤ ((i + 1 : Nat) : Int) := by omega
    have g6 : ((i + 1 : Nat) : Int) < (p.length : Int) := by omega
    have g7 : ¬ y < x := by omega
    have H : Ev (fun q => (slices_Reverse_int_int.f q (d1 ++ x :: d2)).bind fun t => some ((a ++ [y]) ++ t, true)) (a ++ (y :: (d1 ++ x :: d2).reverse), true) := by
      refine Ev.bind (Reverse_ev _ hlen) ?_
      rw [List.append_assoc]
      exact Ev.now _
    refine Ev.step (fun q => ?_) H
    simp only [order_Next.l1]
    rw [if_pos g1, if_pos g2, if_pos g3, if_pos g4, rd_nat, rd_nat, hx, hy, if_neg g7, hwi, if_pos g5, if_pos g6]
    simp only [Int.toNat_natCast]
    rw [edrop, etake]
  induction d with
  | zero =>
    intro k hk hkl hz
    obtain rfl : k = i + 1 := by omega
    exact fin (i + 1) (by omega) hkl hz hlt
  | succ d ih =>
    intro k hk hkl hz
    by_cases hgt : p.getD i 0 < p.getD k 0
    · exact fin k (by omega) hkl hz hgt
    · have hne : p.getD k 0 ≠ p.getD i 0 := by
        rw [getD_get hkl, getD_get (by omega)]
        exact fun e => (List.pairwise_iff_getElem.1 hpn i k (by omega) hkl (by omega)) e.symm
      have hl : p.getD k 0 < p.getD i 0 := by omega
      have hk1 : k - 1 + 1 = k := by omega
      have H := ih (k - 1) (by omega) (by omega) (by
        rw [hk1, List.drop_eq_getElem_cons hkl]
        intro z hzz
        rcases List.mem_cons.1 hzz with rfl | h
        · rw [← getD_get hkl]; exact hl
        · exact hz z h)
      have g1 : (0 : Int) ≤ (k : Int) := by omega
      have g2 : (k : Int) < (p.length : Int) := by omega
      have g3 : (0 : Int) ≤ (i : Int) := by omega
      have g4 : (i : Int) < (p.length : Int) := by omega
      clear hwi
      have hw : wrap64 ((k : Int) - 1) = ((k - 1 : Nat) : Int) := by rw [w64 (by omega) (by omega)]; omega
      refine Ev.step (fun q => ?_) H
      simp only [order_Next.l1]
      rw [if_pos g1, if_pos g2, if_pos g3, if_pos g4, rd_nat, rd_nat, if_pos hl, hw]
theorem Next_l0 (p : List Int) (h8 : p.length ≤ 8) (hp : p.Perm (up p.length)) : ∀ (i : Nat), i < p.length ∨ (i = 0 ∧ p = []) → (p.drop i).Pairwise (· > ·) → Ev (fun q => order_Next.l0 q p ((i : Int) - 1)) (nextZ p) := by
  have hpn : p.Nodup := (List.Perm.nodup_iff hp).2 (up_nodup _)
  intro i
  induction i with
  | zero =>
    intro _ hd
    rw [List.drop_zero] at hd
    have hr := rank_down hd
    have e : nextZ p = ([], false) := by unfold nextZ; rw [if_neg (by omega)]
    rw [e]
    refine Ev.step (f := fun _ => some ([], false)) (fun q => ?_) (Ev.now _)
    simp only [order_Next.l0]
    rw [if_neg (by omega)]
  | succ i ih =>
    intro hi hd
    have hi1 : i + 1 < p.length := by
      rcases hi with h | ⟨h, _⟩
      · exact h
      · omega
    have ei : ((i + 1 : Nat) : Int) - 1 = (i : Int) := by omega
    rw [ei]
    have ed : p.drop i = p.getD i 0 :: p.drop (i + 1) := by rw [getD_get (by omega)]; exact List.drop_eq_getElem_cons (by omega)
    have ed1 : p.drop (i + 1) = p.getD (i + 1) 0 :: p.drop (i + 2) := by rw [getD_get hi1]; exact List.drop_eq_getElem_cons hi1
    have g1 : (0 : Int) ≤ (i : Int) := by omega
    have g2 : (i : Int) < (p.length : Int) := by omega
    have g3 : (0 : Int) ≤ ((i + 1 : Nat) : Int) := by omega
    have g4 : ((i + 1 : Nat) : Int) < (p.length : Int) := by omega
    have g5 : p.length < 17592186044416 := by omega
    have hwn : wrap64 ((p.length : Int) - 1) = ((p.length - 1 : Nat) : Int) := by rw [w64 (by omega) (by omega)]; omega
    have hwi : wrap64 ((i : Int) + 1) = ((i + 1 : Nat) : Int) := by clear hwn; rw [w64 (by omega) (by omega)]; omega
    have hwm : wrap64 ((i : Int) - 1) = (i : Int) - 1 := by clear hwn hwi; exact w64 (by omega) (by omega)
    have H : Ev (fun q => if p.getD i 0 > p.getD (i + 1) 0 then order_Next.l0 q p ((i : Int) - 1) else order_Next.l1 q (i : Int) p ((p.length - 1 : Nat) : Int)) (nextZ p) := by
      clear hwn hwi hwm
      by_cases h : p.getD i 0 > p.getD (i + 1) 0
      · refine Ev.itep h (ih (.inl (by omega)) ?_)
        rw [ed]
        refine List.pairwise_cons.2 ⟨fun z hz => ?_, hd⟩
        rw [ed1] at hz hd
        rcases List.mem_cons.1 hz with rfl | hz
        · exact h
        · have := (List.pairwise_cons.1 hd).1 z hz; omega
      · have hne : p.getD i 0 ≠ p.getD (i + 1) 0 := by
          rw [getD_get hi1, getD_get (by omega)]
          exact List.pairwise_iff_getElem.1 hpn i (i + 1) (by omega) hi1 (by omega)
        refine Ev.iten h (Next_l1 p h8 hp i hi1 hd (by omega) (p.length - 1 - (i + 1)) (p.length - 1) (by omega) (by omega) ?_)
        rw [List.drop_eq_nil_of_le (by omega)]
        simp
    refine Ev.step (fun q => ?_) H
    simp only [order_Next.l0, slices_Clone_int_int.f]
    rw [if_pos g1, if_pos g2, hwi, if_pos g3, if_pos g4, if_pos g5, rd_nat, rd_nat, hwm]
    simp only [Option.bind_some]
    rw [hwn]
theorem Next_ev (p : List Int) : Ev (fun k => order_Next.f k p) (nextZ p) := by
  unfold order_Next.f
  refine Ev.bind (right_ev p) ?_
  by_cases h : rtB p = true
  · refine Ev.itep h ?_
    obtain ⟨h8, hp⟩ := rtB_iff.1 h
    by_cases hn : p = []
    · subst hn
      exact Next_l0 [] h8 hp 0 (.inr ⟨rfl, rfl⟩) (by simp) |> fun H => by
        have e : nextZ [] = ([], false) := by decide
        rw [e]
        refine Ev.step (f := fun _ => some ([], false)) (fun q => ?_) (Ev.now _)
        simp only [order_Next.l0]
        rw [if_neg (by decide +kernel)]
    · have hl : 0 < p.length := List.length_pos_iff.2 hn
      have hw : wrap64 ((p.length : Int) - 2) = ((p.length - 1 : Nat) : Int) - 1 := by rw [w64 (by omega) (by omega)]; omega
      rw [hw]
      clear hw
      refine Next_l0 p h8 hp (p.length - 1) (.inl (by omega)) ?_
      have : (p.drop (p.length - 1)).length = 1 := by rw [List.length_drop]; omega
      obtain ⟨a, ha⟩ := List.length_eq_one_iff.1 this
      rw [ha]
      exact List.pairwise_singleton _ _
  · have e : nextZ p = ([], false) := by unfold nextZ; rw [if_neg (fun e => h e.1)]
    rw [e]
    exact Ev.iten h (Ev.now _)
end Go.Proofs.Ytnhnmbfhepeadaa.Pure
