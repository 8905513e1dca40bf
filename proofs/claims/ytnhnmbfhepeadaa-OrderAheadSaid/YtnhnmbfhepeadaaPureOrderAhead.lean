/- The pure law OrderAhead: of two orders of as many numbers the one that is ahead where they are unlike first has the lesser place.
   Conditions: none beyond the kinds of the arguments. -/
import Derived.Test.YtnhnmbfhepeadaaP13b
namespace Go.Proofs.Ytnhnmbfhepeadaa.Pure
set_option linter.unusedVariables false
open Go.RowKit Go.Proofs.Ytnhnmbfhepeadaa.X Go.Proofs.YtnhnmbfhepeadaaW.PrintWords Go.Proofs.YtnhnmbfhepeadaaW.PrintLast
theorem nthZ_spec {n k : Int} (h : 0 ≤ k ∧ k < cnt n) : 0 ≤ n ∧ n ≤ 8 ∧ (nthZ n k).Perm (up n.toNat) ∧ (rank (nthZ n k) : Int) = k ∧ ((nthZ n k).length : Int) = n := by
  obtain ⟨a, b⟩ := cnt_in (n := n) (by omega)
  have h2 := h.2
  rw [cnt_toNat a b] at h2
  have := nth_spec n.toNat (up n.toNat) k.toNat (up_Up _) (up_length _) (by omega)
  have e : nthZ n k = nth n.toNat (up n.toNat) k.toNat := by unfold nthZ; rw [if_pos h]
  rw [e]
  refine ⟨a, b, this.1, ?_, ?_⟩
  · rw [this.2]; omega
  · rw [this.1.length_eq, up_length]; omega
theorem OrderAhead (n i k : Int) (h0 : (Lit.int .i64 n).wf = true) (h1 : (Lit.int .i64 i).wf = true) (h2 : (Lit.int .i64 k).wf = true) : ∃ q, carrefourlaw13_OrderAhead.f q n i k = some true := by
  suffices h : Ev (fun q => carrefourlaw13_OrderAhead.f q n i k) true by obtain ⟨K, h⟩ := h; exact ⟨K, h K (Nat.le_refl _)⟩
  unfold carrefourlaw13_OrderAhead.f
  have aw : Ev (fun q => (carrefourlaw13_awake.f q).bind fun t => some t) true := Ev.bind awake13_ev (Ev.now _)
  refine Ev.bind (Nth_ev n i) (Ev.bind (Nth_ev n k) ?_)
  have out : ¬ (0 ≤ i ∧ i < cnt n ∧ 0 ≤ k ∧ k < cnt n) → Ev (fun q => carrefourlaw13_OrderAhead.j0 q n i k (nthZ n i) (nthZ n k) true) true := by
    intro h
    have H : Ev (fun q => (carrefourlaw13_awake.f q).bind fun t143 => (if t143 = true then (if i < 0 then (some true) else (if k < 0 then (some true) else ((order_Count.f q n).bind fun t144 => (if i ≥ t144 then (some true) else (some (decide (k ≥ t144))))))) else (some false))) true := by
      refine Ev.bind awake13_ev (Ev.itep rfl ?_)
      by_cases a : i < 0
      · exact Ev.itep a (Ev.now _)
      · refine Ev.iten a ?_
        by_cases b : k < 0
        · exact Ev.itep b (Ev.now _)
        · refine Ev.iten b (Ev.bind (Count_ev n) ?_)
          by_cases c : i ≥ cnt n
          · exact Ev.itep c (Ev.now _)
          · refine Ev.iten c ?_
            rw [decide_eq_true (by omega)]
            exact Ev.now _
    refine Ev.step (fun q => ?_) H
    simp only [carrefourlaw13_OrderAhead.j0]
    rw [if_pos trivial]
  by_cases a : i < 0
  · exact Ev.itep a (out (by omega))
  · refine Ev.iten a ?_
    by_cases b : k < 0
    · exact Ev.itep b (out (by omega))
    · refine Ev.iten b (Ev.bind (Count_ev n) ?_)
      by_cases c : i ≥ cnt n
      · exact Ev.itep c (out (by omega))
      · refine Ev.iten c ?_
        by_cases d : k ≥ cnt n
        · exact Ev.itep d (out (by omega))
        · refine Ev.iten d ?_
          obtain ⟨n0, n8, pp, pr, pl⟩ := nthZ_spec (n := n) (k := i) ⟨by omega, by omega⟩
          obtain ⟨_, _, qp, qr, ql⟩ := nthZ_spec (n := n) (k := k) ⟨by omega, by omega⟩
          refine Ev.itep pl ?_
          have e : (((nthZ n k).length : Int) != n) = false := by rw [ql]; simp
          rw [e]
          generalize nthZ n i = p at *
          generalize nthZ n k = q at *
          have hpq : p.Perm q := pp.trans qp.symm
          have hpn : p.Nodup := (List.Perm.nodup_iff pp).2 (up_nodup _)
          have hqn : q.Nodup := (List.Perm.nodup_iff qp).2 (up_nodup _)
          have loop : ∀ (m d : Nat), p.length = m + d → p.take m = q.take m → Ev (fun k_ => carrefourlaw13_OrderAhead.l0 k_ n i k p q (m : Int)) true := by
            intro m d
            induction d generalizing m with
            | zero =>
              intro hm ht
              rw [List.take_of_length_le (by omega), List.take_of_length_le (by omega)] at ht
              have H : Ev (fun k_ => if i = k then ((carrefourlaw13_awake.f k_).bind fun t150 => (some t150)) else (some false)) true := Ev.itep (by rw [← pr, ← qr, ht]) aw
              refine Ev.step (fun k_ => ?_) H
              simp only [carrefourlaw13_OrderAhead.l0]
              rw [if_neg (by omega)]
            | succ d ih =>
              intro hm ht
              have g1 : (m : Int) < n := by omega
              have g2 : (0 : Int) ≤ (m : Int) := by omega
              have g3 : (m : Int) < (p.length : Int) := by omega
              have g4 : (m : Int) < (q.length : Int) := by omega
              have H : Ev (fun k_ => if p.getD m 0 = q.getD m 0 then carrefourlaw13_OrderAhead.l0 k_ n i k p q ((m + 1 : Nat) : Int) else (if (decide (p.getD m 0 < q.getD m 0) == decide (i < k)) = true then ((carrefourlaw13_awake.f k_).bind fun t149 => (some t149)) else (some false))) true := by
                by_cases he : p.getD m 0 = q.getD m 0
                · refine Ev.itep he (ih (m + 1) (by omega) ?_)
                  rw [List.take_succ_eq_append_getElem (by omega), List.take_succ_eq_append_getElem (by omega), ht]
                  rw [getD_get (by omega), getD_get (by omega)] at he
                  rw [he]
                · refine Ev.iten he (Ev.itep ?_ aw)
                  by_cases hl : p.getD m 0 < q.getD m 0
                  · have := rank_ahead m hpq hqn (by omega) ht hl
                    rw [decide_eq_true hl, decide_eq_true (by omega)]; rfl
                  · have := rank_ahead m hpq.symm hpn (by omega) ht.symm (by omega)
                    rw [decide_eq_false hl, decide_eq_false (by omega)]; rfl
              have hw : wrap64 ((m : Int) + 1) = ((m + 1 : Nat) : Int) := by clear pr qr; rw [w64 (by omega) (by omega)]; omega
              refine Ev.step (fun k_ => ?_) H
              simp only [carrefourlaw13_OrderAhead.l0]
              rw [if_pos g1, if_pos g2, if_pos g3, if_pos g4, hw, rd_nat, rd_nat]
          refine Ev.step (fun k_ => ?_) (loop 0 p.length (by omega) (by simp))
          simp only [carrefourlaw13_OrderAhead.j0]
          rw [if_neg (by decide)]
          rfl
end Go.Proofs.Ytnhnmbfhepeadaa.Pure
