/- Where each number stands; the reference's place and next order.
   Conditions: as each theorem's head says. -/
import Derived.Test.YtnhnmbfhepeadaaP13e
namespace Go.Proofs.Ytnhnmbfhepeadaa.Pure
set_option linter.unusedVariables false
open Go.RowKit Go.Proofs.Ytnhnmbfhepeadaa.X Go.Proofs.YtnhnmbfhepeadaaW.PrintWords Go.Proofs.YtnhnmbfhepeadaaW.PrintLast Go.Proofs.YtnhnmbfhepeadaaW.PrintMore

/-- The places, laid one behind the other. -/
def tf : List Int → Nat → List Int → List Int
  | [], _, y => y
  | v :: t, i, y => tf t (i + 1) (y.set v.toNat (i : Int))
theorem tf_length : ∀ (l : List Int) (i : Nat) (y : List Int), (tf l i y).length = y.length
  | [], _, _ => rfl
  | v :: t, i, y => by rw [tf, tf_length t, List.length_set]
theorem tf_other : ∀ (l : List Int) (i : Nat) (y : List Int) (u : Nat), (∀ v ∈ l, 0 ≤ v) → (u : Int) ∉ l → (tf l i y).getD u 0 = y.getD u 0
  | [], _, _, _, _, _ => rfl
  | v :: t, i, y, u, h0, hu => by
    rw [tf, tf_other t (i + 1) _ u (fun w hw => h0 w (List.mem_cons_of_mem _ hw)) (fun h => hu (List.mem_cons_of_mem _ h))]
    have h1 := h0 v List.mem_cons_self
    have hne : v.toNat ≠ u := fun e => hu (by rw [← e, Int.toNat_of_nonneg h1]; exact List.mem_cons_self)
    rw [List.getD_eq_getElem?_getD, List.getElem?_set, if_neg hne, ← List.getD_eq_getElem?_getD]
theorem tf_at : ∀ (l : List Int) (i : Nat) (y : List Int), (∀ v ∈ l, 0 ≤ v ∧ v < (y.length : Int)) → l.Nodup → ∀ m, m < l.length → (tf l i y).getD (l.getD m 0).toNat 0 = ((i + m : Nat) : Int)
  | [], _, _, _, _, m, hm => by simp at hm
  | v :: t, i, y, h, hn, m, hm => by
    obtain ⟨hv, ht⟩ := List.nodup_cons.1 hn
    have h1 := h v List.mem_cons_self
    cases m with
    | zero =>
      rw [List.getD_cons_zero, tf, tf_other t (i + 1) _ v.toNat (fun w hw => (h w (List.mem_cons_of_mem _ hw)).1) (by rw [Int.toNat_of_nonneg h1.1]; exact hv)]
      rw [List.getD_eq_getElem?_getD, List.getElem?_set, if_pos rfl, if_pos (by omega)]
      rfl
    | succ m =>
      rw [List.getD_cons_succ, tf]
      have := tf_at t (i + 1) (y.set v.toNat (i : Int)) (fun w hw => by rw [List.length_set]; exact h w (List.mem_cons_of_mem _ hw)) ht m (by simpa using hm)
      rw [this]; omega
/-- Where each number stands. -/
def turn (p : List Int) : List Int := tf p 0 (List.replicate p.length 0)
theorem turn_length (p : List Int) : (turn p).length = p.length := by unfold turn; rw [tf_length, List.length_replicate]
def turnZ (p : List Int) : List Int := if rtB p = true then turn p else []
theorem Turned_l0 (p : List Int) (h8 : p.length ≤ 8) (hr : ∀ v ∈ p, 0 ≤ v ∧ v < (p.length : Int)) (d : Nat) : ∀ (i : Nat) (y : List Int), p.length = i + d → y.length = p.length → Ev (fun k => order_Turned.l0 k y p (p.length : Int) (i : Int)) (tf (p.drop i) i y) := by
  induction d with
  | zero =>
    intro i y hi hy
    rw [List.drop_eq_nil_of_le (by omega)]
    refine Ev.step (f := fun _ => some y) (fun k => ?_) (Ev.now _)
    simp only [order_Turned.l0]
    rw [if_neg (by omega)]
  | succ d ih =>
    intro i y hi hy
    have hlt : i < p.length := by omega
    have ed : p.drop i = p.getD i 0 :: p.drop (i + 1) := by rw [getD_get hlt]; exact List.drop_eq_getElem_cons hlt
    have hv := hr (p.getD i 0) (by rw [getD_get hlt]; exact List.getElem_mem hlt)
    have g1 : (i : Int) < (p.length : Int) := by omega
    have g2 : (0 : Int) ≤ (i : Int) := by omega
    have g3 : p.getD i 0 < (y.length : Int) := by omega
    have hw : wrap64 ((i : Int) + 1) = ((i + 1 : Nat) : Int) := by clear hv g3; rw [w64 (by omega) (by omega)]; omega
    rw [ed, tf]
    refine Ev.step (fun k => ?_) (ih (i + 1) (y.set (p.getD i 0).toNat (i : Int)) (by clear hw; omega) (by rw [List.length_set]; exact hy))
    simp only [order_Turned.l0]
    rw [if_pos g1, if_pos g2, if_pos g1, rd_nat, if_pos hv.1, if_pos g3, hw]
theorem Turned_ev (p : List Int) : Ev (fun k => order_Turned.f k p) (turnZ p) := by
  unfold order_Turned.f turnZ
  refine Ev.bind (right_ev p) ?_
  by_cases h : rtB p = true
  · rw [if_pos h]
    obtain ⟨h8, hp⟩ := rtB_iff.1 h
    refine Ev.itep h (Ev.itep (by omega) (Ev.itep (by omega) ?_))
    rw [Int.toNat_natCast]
    have := Turned_l0 p h8 (fun v hv => up_mem.1 (hp.mem_iff.1 hv)) p.length 0 (List.replicate p.length 0) (by omega) (by simp)
    rw [List.drop_zero] at this
    exact this
  · rw [if_neg h]; exact Ev.iten h (Ev.now _)
theorem turn_at {p : List Int} (hp : p.Perm (up p.length)) {m : Nat} (hm : m < p.length) : (turn p).getD (p.getD m 0).toNat 0 = (m : Int) := by
  have := tf_at p 0 (List.replicate p.length 0) (fun v hv => by rw [List.length_replicate]; exact up_mem.1 (hp.mem_iff.1 hv)) ((List.Perm.nodup_iff hp).2 (up_nodup _)) m hm
  rw [Nat.zero_add] at this
  exact this
theorem turn_right {p : List Int} (h : rtB p = true) : rtB (turn p) = true := by
  obtain ⟨h8, hp⟩ := rtB_iff.1 h
  unfold rtB allIn
  rw [turn_length, decide_eq_true h8, Bool.true_and, List.all_eq_true]
  intro v hv
  obtain ⟨h0, h1⟩ := up_mem.1 hv
  apply decide_eq_true
  have ht := turn_at hp (m := v.toNat) (by omega)
  rw [Int.toNat_of_nonneg h0] at ht
  have hm : p.getD v.toNat 0 ∈ p := by rw [getD_get (by omega)]; exact List.getElem_mem _
  have hu := up_mem.1 (hp.mem_iff.1 hm)
  have hl : (p.getD v.toNat 0).toNat < (turn p).length := by rw [turn_length]; omega
  rw [getD_get hl] at ht
  rw [← ht]; exact List.getElem_mem hl
theorem turn_turn {p : List Int} (h : rtB p = true) : turn (turn p) = p := by
  obtain ⟨h8, hp⟩ := rtB_iff.1 h
  obtain ⟨_, hq⟩ := rtB_iff.1 (turn_right h)
  have hl1 := turn_length p
  have hl2 := turn_length (turn p)
  refine List.ext_getElem (by omega) fun i h1 h2 => ?_
  rw [← getD_get (l := turn (turn p)) h1, ← getD_get (l := p) h2]
  have hm : p.getD i 0 ∈ p := by rw [getD_get h2]; exact List.getElem_mem _
  have hu := up_mem.1 (hp.mem_iff.1 hm)
  have ha := turn_at hp h2
  have hb := turn_at (p := turn p) (by rw [hl1] at hq ⊢; exact hq) (m := (p.getD i 0).toNat) (by omega)
  rw [ha, Int.toNat_natCast, Int.toNat_of_nonneg hu.1] at hb
  exact hb
end Go.Proofs.Ytnhnmbfhepeadaa.Pure
