/- Where each number stands; the reference's place and next order.
   Conditions: as each theorem's head says. -/
import Derived.Test.YtnhnmbfhepeadaaP13e
namespace Go.Proofs.Ytnhnmbfhepeadaa.Pure
set_option linter.unusedVariables false
open Go.RowKit Go.Proofs.Ytnhnmbfhepeadaa.X Go.Proofs.YtnhnmbfhepeadaaW.PrintWords Go.Proofs.YtnhnmbfhepeadaaW.PrintLast Go.Proofs.YtnhnmbfhepeadaaW.PrintMore

/-- The places, laid one behind the other. -/
def tf : List Int → Nat → List Int → List Int
  | [], _, y => y
  | v :: t, i, y => tf t (i + 1) (y.set v.toNat (i : Int))
theorem tf_length : ∀ (l : List Int) (i : Nat) (y : List Int), (tf l i y).length = y.length
  | [], _, _ => rfl
  | v :: t, i, y => by rw [tf, tf_length t, List.length_set]
/-- Where each number stands. -/
def turn (p : List Int) : List Int := tf p 0 (List.replicate p.length 0)
theorem turn_length (p : List Int) : (turn p).length = p.length := by unfold turn; rw [tf_length, List.length_replicate]
def turnZ (p : List Int) : List Int := if rtB p = true then turn p else []
theorem Turned_l0 (p : List Int) (h8 : p.length ≤ 8) (hr : ∀ v ∈ p, 0 ≤ v ∧ v < (p.length : Int)) (d : Nat) : ∀ (i : Nat) (y : List Int), p.length = i + d → y.length = p.length → Ev (fun k => order_Turned.l0 k y p (p.length : Int) (i : Int)) (tf (p.drop i) i y) := by
  induction d with
  | zero =>
    intro i y hi hy
    rw [List.drop_eq_nil_of_le (by omega)]
    refine Ev.step (f := fun _ => some y) (fun k => ?_) (Ev.now _)
    simp only [order_Turned.l0]
    rw [if_neg (by omega)]
  | succ d ih =>
    intro i y hi hy
    have hlt : i < p.length := by omega
    have ed : p.drop i = p.getD i 0 :: p.drop (i + 1) := by rw [getD_get hlt]; exact List.drop_eq_getElem_cons hlt
    have hv := hr (p.getD i 0) (by rw [getD_get hlt]; exact List.getElem_mem hlt)
    have g1 : (i : Int) < (p.length : Int) := by omega
    have g2 : (0 : Int) ≤ (i : Int) := by omega
    have g3 : p.getD i 0 < (y.length : Int) := by omega
    have hw : wrap64 ((i : Int) + 1) = ((i + 1 : Nat) : Int) := by clear hv g3; rw [w64 (by omega) (by omega)]; omega
    rw [ed, tf]
    refine Ev.step (fun k => ?_) (ih (i + 1) (y.set (p.getD i 0).toNat (i : Int)) (by clear hw; omega) (by rw [List.length_set]; exact hy))
    simp only [order_Turned.l0]
    rw [if_pos g1, if_pos g2, if_pos g1, rd_nat, if_pos hv.1, if_pos g3, hw]
theorem Turned_ev (p : List Int) : Ev (fun k => order_Turned.f k p) (turnZ p) := by
  unfold order_Turned.f turnZ
  refine Ev.bind (right_ev p) ?_
  by_cases h : rtB p = true
  · rw [if_pos h]
    obtain ⟨h8, hp⟩ := rtB_iff.1 h
    refine Ev.itep h (Ev.itep (by omega) (Ev.itep (by omega) ?_))
    rw [Int.toNat_natCast]
    have := Turned_l0 p h8 (fun v hv => up_mem.1 (hp.mem_iff.1 hv)) p.length 0 (List.replicate p.length 0) (by omega) (by simp)
    rw [List.drop_zero] at this
    exact this
  · rw [if_neg h]; exact Ev.iten h (Ev.now _)
theorem RTurned_l0 (p : List Int) (h8 : p.length ≤ 8) (hr : ∀ v ∈ p, 0 ≤ v ∧ v < (p.length : Int)) (d : Nat) : ∀ (i : Nat) (y : List Int), p.length = i + d → y.length = p.length → Ev (fun k => carrefourref13_Turned.l0 k p y (i : Int)) (tf (p.drop i) i y) := by
  induction d with
  | zero =>
    intro i y hi hy
    rw [List.drop_eq_nil_of_le (by omega)]
    refine Ev.step (f := fun _ => some y) (fun k => ?_) (Ev.now _)
    simp only [carrefourref13_Turned.l0]
    rw [if_neg (by omega)]
  | succ d ih =>
    intro i y hi hy
    have hlt : i < p.length := by omega
    have ed : p.drop i = p.getD i 0 :: p.drop (i + 1) := by rw [getD_get hlt]; exact List.drop_eq_getElem_cons hlt
    have hv := hr (p.getD i 0) (by rw [getD_get hlt]; exact List.getElem_mem hlt)
    have g1 : (i : Int) < (p.length : Int) := by omega
    have g2 : (0 : Int) ≤ (i : Int) := by omega
    have g3 : p.getD i 0 < (y.length : Int) := by omega
    have hw : wrap64 ((i : Int) + 1) = ((i + 1 : Nat) : Int) := by clear hv g3; rw [w64 (by omega) (by omega)]; omega
    rw [ed, tf]
    refine Ev.step (fun k => ?_) (ih (i + 1) (y.set (p.getD i 0).toNat (i : Int)) (by clear hw; omega) (by rw [List.length_set]; exact hy))
    simp only [carrefourref13_Turned.l0]
    rw [if_pos g1, if_pos g2, rd_nat, if_pos hv.1, if_pos g3, hw]
theorem RTurned_ev (p : List Int) : Ev (fun k => carrefourref13_Turned.f k p) (turnZ p) := by
  unfold carrefourref13_Turned.f turnZ
  refine Ev.bind (Right_ev p) ?_
  by_cases h : rtB p = true
  · rw [if_pos h]
    obtain ⟨h8, hp⟩ := rtB_iff.1 h
    refine Ev.itep h (Ev.itep (by omega) (Ev.itep (by omega) ?_))
    rw [Int.toNat_natCast]
    have := RTurned_l0 p h8 (fun v hv => up_mem.1 (hp.mem_iff.1 hv)) p.length 0 (List.replicate p.length 0) (by omega) (by simp)
    rw [List.drop_zero] at this
    exact this
  · rw [if_neg h]; exact Ev.iten h (Ev.now _)
theorem RRank_l0 (p : List Int) (h8 : p.length ≤ 8) (hp : p.Perm (up p.length)) (d : Nat) : ∀ i : Nat, rank p = i + d → Ev (fun k => carrefourref13_Rank.l0 k p (ordsZ (p.length : Int)) (i : Int)) (rank p : Int) := by
  have hl := ordsZ_len (p.length : Int)
  rw [cnt_nat h8] at hl
  have hf := fac_le8 h8
  have hk := rank_lt p
  have ha : ∀ i : Nat, i < fac p.length → rd_L1 (ordsZ (p.length : Int)) (i : Int) = nth p.length (up p.length) i := by
    intro i hi
    have := ordsZ_at (p.length : Int) (k := i) (by rw [cnt_nat h8]; omega)
    unfold rd_L1
    rw [Int.toNat_natCast, this]
    unfold nthZ
    rw [cnt_nat h8, if_pos ⟨by omega, by omega⟩, Int.toNat_natCast, Int.toNat_natCast]
  induction d with
  | zero =>
    intro i hi
    have e : nth p.length (up p.length) i = p := (nth_of_rank hp (by omega)).symm
    have H : Ev (fun k => (carrefourref13_Same.f k (nth p.length (up p.length) i) p).bind fun t => if t = true then some (i : Int) else carrefourref13_Rank.l0 k p (ordsZ (p.length : Int)) (wrap64 ((i : Int) + 1))) (rank p : Int) := by
      have : (rank p : Int) = (i : Int) := by omega
      rw [e, this]
      exact Ev.bind (Same_ev p p (by omega)) (Ev.itep (decide_eq_true rfl) (Ev.now _))
    refine Ev.step (fun k => ?_) H
    simp only [carrefourref13_Rank.l0]
    rw [if_pos (by omega), if_pos (by omega), ha i (by omega)]
  | succ d ih =>
    intro i hi
    have hs := nth_spec p.length (up p.length) i (up_Up _) (up_length _) (by omega)
    have hne : nth p.length (up p.length) i ≠ p := by
      intro e
      have := hs.2
      rw [e] at this
      omega
    have g1 : (i : Int) < ((ordsZ (p.length : Int)).length : Int) := by omega
    have g2 : (0 : Int) ≤ (i : Int) := by omega
    have g3 : i < fac p.length := by omega
    have hlen : (nth p.length (up p.length) i).length < 9223372036854775807 := by rw [hs.1.length_eq, up_length]; omega
    have hI := ih (i + 1) (by omega)
    clear hs hl
    have b1 : (i : Int) + 1 < 9223372036854775808 := by omega
    have hw : wrap64 ((i : Int) + 1) = ((i + 1 : Nat) : Int) := by clear ha hk hI g1; rw [w64 (by omega) b1]; rfl
    have H : Ev (fun k => (carrefourref13_Same.f k (nth p.length (up p.length) i) p).bind fun t => if t = true then some (i : Int) else carrefourref13_Rank.l0 k p (ordsZ (p.length : Int)) (wrap64 ((i : Int) + 1))) (rank p : Int) := by
      rw [hw]
      exact Ev.bind (Same_ev _ p hlen) (Ev.iten (by simp [hne]) hI)
    refine Ev.step (fun k => ?_) H
    simp only [carrefourref13_Rank.l0]
    rw [if_pos g1, if_pos g2, ha i g3]
theorem RRank_ev (p : List Int) : Ev (fun k => carrefourref13_Rank.f k p) (rankZ p) := by
  unfold carrefourref13_Rank.f rankZ
  refine Ev.bind (Right_ev p) ?_
  by_cases h : rtB p = true
  · rw [if_pos h]
    obtain ⟨h8, hp⟩ := rtB_iff.1 h
    exact Ev.itep h (Ev.bind (Orders_ev _) (RRank_l0 p h8 hp (rank p) 0 (by omega)))
  · rw [if_neg h]; exact Ev.iten h (Ev.now _)
theorem RNext_ev (p : List Int) : Ev (fun k => carrefourref13_Next.f k p) (nextZ p) := by
  unfold carrefourref13_Next.f
  refine Ev.bind (RRank_ev p) ?_
  by_cases h : rtB p = true
  · obtain ⟨h8, hp⟩ := rtB_iff.1 h
    have hf := fac_le8 h8
    have hk := rank_lt p
    have e : rankZ p = (rank p : Int) := by unfold rankZ; rw [if_pos h]
    rw [e]
    have hw : wrap64 ((rank p : Int) + 1) = ((rank p + 1 : Nat) : Int) := by rw [w64 (by omega) (by omega)]; rfl
    rw [hw]
    clear hw
    have hc := RCount_ev (p.length : Int)
    rw [cnt_nat h8] at hc
    refine Ev.iten (by omega) (Ev.bind hc ?_)
    by_cases hl : rank p + 1 < fac p.length
    · have en : nextZ p = (nthZ (p.length : Int) ((rank p + 1 : Nat) : Int), true) := by
        unfold nextZ nthZ
        rw [if_pos ⟨h, hl⟩, cnt_nat h8, if_pos ⟨by omega, by omega⟩, Int.toNat_natCast, Int.toNat_natCast]
      rw [en]
      exact Ev.iten (by omega) (Ev.bind (RNth_ev _ _) (Ev.now _))
    · have en : nextZ p = ([], false) := by unfold nextZ; rw [if_neg (fun e => hl e.2)]
      rw [en]
      exact Ev.itep (by omega) (Ev.now _)
  · have en : nextZ p = ([], false) := by unfold nextZ; rw [if_neg (fun e => h e.1)]
    have e : rankZ p = -1 := by unfold rankZ; rw [if_neg h]
    rw [en, e]
    exact Ev.itep (by decide) (Ev.now _)
end Go.Proofs.Ytnhnmbfhepeadaa.Pure
