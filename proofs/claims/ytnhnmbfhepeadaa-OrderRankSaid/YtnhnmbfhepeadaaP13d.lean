/- Which rows are orders, and the place of an order.
   Conditions: as each theorem's head says. -/
import Derived.Test.YtnhnmbfhepeadaaP13c
namespace Go.Proofs.Ytnhnmbfhepeadaa.Pure
set_option linter.unusedVariables false
open Go.RowKit Go.Proofs.Ytnhnmbfhepeadaa.X Go.Proofs.YtnhnmbfhepeadaaW.PrintWords Go.Proofs.YtnhnmbfhepeadaaW.PrintLast Go.Proofs.YtnhnmbfhepeadaaW.PrintMore

theorem perm_of : ∀ {a b : List Int}, a.Nodup → (∀ x ∈ a, x ∈ b) → b.length ≤ a.length → a.Perm b
  | [], b, _, _, hl => by
    have : b = [] := List.eq_nil_of_length_eq_zero (by simpa using hl)
    subst this; exact List.Perm.refl _
  | x :: t, b, hn, hs, hl => by
    obtain ⟨hx, ht⟩ := List.nodup_cons.1 hn
    have hb : x ∈ b := hs x List.mem_cons_self
    have hp := List.perm_cons_erase hb
    have hlb := hp.length_eq
    have := perm_of (a := t) (b := b.erase x) ht (fun y hy => by
      have h1 := hs y (List.mem_cons_of_mem _ hy)
      have h2 : y ≠ x := fun e => hx (e ▸ hy)
      exact (List.mem_erase_of_ne h2).2 h1) (by simp at hl hlb; omega)
    exact (List.Perm.cons x this).trans hp.symm
/-- Is a row an order? -/
def allIn (l p : List Int) : Bool := l.all fun v => decide (v ∈ p)
def rtB (p : List Int) : Bool := decide (p.length ≤ 8) && allIn (up p.length) p
theorem rtB_len {p : List Int} (h : ¬ p.length ≤ 8) : rtB p = false := by unfold rtB; rw [decide_eq_false h]; rfl
theorem rtB_iff {p : List Int} : rtB p = true ↔ p.length ≤ 8 ∧ p.Perm (up p.length) := by
  unfold rtB allIn
  rw [Bool.and_eq_true, decide_eq_true_eq, List.all_eq_true]
  constructor
  · rintro ⟨h, k⟩
    exact ⟨h, (perm_of (up_nodup _) (fun x hx => of_decide_eq_true (k x hx)) (by rw [up_length]; exact Nat.le_refl _)).symm⟩
  · rintro ⟨h, k⟩
    exact ⟨h, fun v hv => decide_eq_true (k.mem_iff.2 hv)⟩
theorem Right_l0 (p : List Int) (h8 : p.length ≤ 8) (d : Nat) : ∀ i : Nat, p.length = i + d → Ev (fun k => carrefourref13_Right.l0 k p (i : Int)) (allIn ((up p.length).drop i) p) := by
  induction d with
  | zero =>
    intro i hi
    rw [List.drop_eq_nil_of_le (by rw [up_length]; omega)]
    refine Ev.step (f := fun _ => some true) (fun k => ?_) (Ev.now _)
    simp only [carrefourref13_Right.l0]
    rw [if_neg (by omega)]
  | succ d ih =>
    intro i hi
    have g1 : (i : Int) < (p.length : Int) := by omega
    have hw : wrap64 ((i : Int) + 1) = ((i + 1 : Nat) : Int) := by rw [w64 (by omega) (by omega)]; omega
    have H : Ev (fun k => (carrefourref13_has.f k p (i : Int)).bind fun t => if t = true then carrefourref13_Right.l0 k p ((i + 1 : Nat) : Int) else some false) (allIn ((up p.length).drop i) p) := by
      refine Ev.bind (has_ev p (i : Int) (by omega)) ?_
      rw [up_drop (by omega), allIn, List.all_cons]
      by_cases h : (i : Int) ∈ p
      · rw [decide_eq_true h, Bool.true_and]
        exact Ev.itep rfl (ih (i + 1) (by omega))
      · rw [decide_eq_false h, Bool.false_and]
        exact Ev.iten (by decide) (Ev.now _)
    refine Ev.step (fun k => ?_) H
    simp only [carrefourref13_Right.l0]
    rw [if_pos g1, hw]
theorem Right_ev (p : List Int) : Ev (fun k => carrefourref13_Right.f k p) (rtB p) := by
  unfold carrefourref13_Right.f
  by_cases h : (p.length : Int) > 8
  · rw [rtB_len (by omega)]
    exact Ev.itep h (Ev.now _)
  · refine Ev.iten h ?_
    have h8 : p.length ≤ 8 := by omega
    have : rtB p = allIn ((up p.length).drop 0) p := by unfold rtB; rw [decide_eq_true h8, Bool.true_and, List.drop_zero]
    rw [this]
    exact Right_l0 p h8 p.length 0 (by omega)
theorem right_l0 (p : List Int) (h8 : p.length ≤ 8) (d : Nat) : ∀ (i : Nat) (s : List Bool), p.length = i + d → s.length = 8 → (∀ u : Nat, u < 8 → s.getD u false = decide ((u : Int) ∈ p.take i)) → (p.take i).Nodup → (∀ v ∈ p.take i, 0 ≤ v ∧ v < (p.length : Int)) → Ev (fun k => order_right.l0 k p s (i : Int)) (rtB p) := by
  induction d with
  | zero =>
    intro i s hi hs hm hn hr
    rw [List.take_of_length_le (by omega)] at hn hr
    have : rtB p = true := rtB_iff.2 ⟨h8, perm_of hn (fun x hx => up_mem.2 (hr x hx)) (by rw [up_length]; exact Nat.le_refl _)⟩
    rw [this]
    refine Ev.step (f := fun _ => some true) (fun k => ?_) (Ev.now _)
    simp only [order_right.l0]
    rw [if_neg (by omega)]
  | succ d ih =>
    intro i s hi hs hm hn hr
    have hlt : i < p.length := by omega
    have hw : wrap64 ((i : Int) + 1) = ((i + 1 : Nat) : Int) := by rw [w64 (by omega) (by omega)]; omega
    have hv : p.getD i 0 ∈ p := by rw [getD_get hlt]; exact List.getElem_mem hlt
    have et : p.take (i + 1) = p.take i ++ [p.getD i 0] := by rw [List.take_succ_eq_append_getElem hlt, getD_get hlt]
    have no : (¬ (0 ≤ p.getD i 0 ∧ p.getD i 0 < (p.length : Int)) ∨ p.getD i 0 ∈ p.take i) → rtB p = false := by
      intro h
      rw [Bool.eq_false_iff]
      intro e
      obtain ⟨_, hp⟩ := rtB_iff.1 e
      rcases h with h | h
      · exact h (up_mem.1 (hp.mem_iff.1 hv))
      · have h2 : p.Nodup := (List.Perm.nodup_iff hp).2 (up_nodup _)
        have h3 : (p.take (i + 1)).Nodup := h2.sublist (List.take_sublist _ _)
        rw [et, List.nodup_append] at h3
        exact h3.2.2 _ h _ (List.mem_singleton.2 rfl) rfl
    generalize hg : p.getD i 0 = v at *
    have H : Ev (fun k => if v < 0 then some false else (if v ≥ (p.length : Int) then some false else (if s.getD v.toNat false = true then some false else order_right.l0 k p (s.set v.toNat true) ((i + 1 : Nat) : Int)))) (rtB p) := by
      by_cases a : v < 0
      · rw [no (.inl (by omega))]; exact Ev.itep a (Ev.now _)
      · refine Ev.iten a ?_
        by_cases b : v ≥ (p.length : Int)
        · rw [no (.inl (by omega))]; exact Ev.itep b (Ev.now _)
        · refine Ev.iten b ?_
          obtain ⟨u, rfl⟩ := Int.eq_ofNat_of_zero_le (Int.not_lt.1 a)
          rw [Int.toNat_natCast, hm u (by omega)]
          by_cases c : (u : Int) ∈ p.take i
          · rw [no (.inr c)]; exact Ev.itep (decide_eq_true c) (Ev.now _)
          · refine Ev.iten (by simp [c]) (ih (i + 1) _ (by omega) (by rw [List.length_set]; exact hs) ?_ ?_ ?_)
            · intro t ht
              rw [et, List.getD_eq_getElem?_getD, List.getElem?_set]
              by_cases e : u = t
              · subst e
                rw [if_pos rfl, if_pos (by omega)]
                simp
              · rw [if_neg e, ← List.getD_eq_getElem?_getD, hm t ht, decide_eq_decide, List.mem_append, List.mem_singleton]
                constructor
                · exact .inl
                · rintro (h | h)
                  · exact h
                  · exact absurd (by omega : u = t) e
            · rw [et, List.nodup_append]
              refine ⟨hn, by simp, ?_⟩
              intro x hx y hy e
              rw [List.mem_singleton] at hy
              subst hy; subst e
              exact c hx
            · intro w hw2
              rw [et, List.mem_append, List.mem_singleton] at hw2
              rcases hw2 with h | rfl
              · exact hr w h
              · exact ⟨by omega, by omega⟩
    refine Ev.step (fun k => ?_) H
    simp only [order_right.l0]
    rw [if_pos (by omega), if_pos (by omega), if_neg (by omega), hw, rd_nat, hg]
theorem right_ev (p : List Int) : Ev (fun k => order_right.f k p) (rtB p) := by
  unfold order_right.f
  by_cases h : p.length ≤ 8
  · exact right_l0 p h p.length 0 _ (by omega) rfl (by intro u hu; have : u = 0 ∨ u = 1 ∨ u = 2 ∨ u = 3 ∨ u = 4 ∨ u = 5 ∨ u = 6 ∨ u = 7 := by omega
                                                       rcases this with rfl | rfl | rfl | rfl | rfl | rfl | rfl | rfl <;> simp) (by simp) (by simp)
  · rw [rtB_len h]
    refine Ev.step (f := fun _ => some false) (fun k => ?_) (Ev.now _)
    simp only [order_right.l0]
    rw [if_pos (by omega), if_pos (by omega), if_pos (by omega)]
/-! ### the place -/
theorem Rank_l1 (p : List Int) (h8 : p.length ≤ 8) (i : Nat) (hi : i < p.length) (x3 : Int) {r : Int} (y : List Int) (hy : y.length ≤ 8) (v : Int) (d : Nat) : ∀ (j : Nat) (c : Nat), y.length = j + d → c ≤ j →
    Ev (fun k => order_Rank.l0 k p (wrap64 (x3 + wrap64 (((c + less v (y.drop j) : Nat) : Int) * (fac (p.length - i - 1) : Int)))) p (p.length : Int) (wrap64 ((i : Int) + 1))) r →
    Ev (fun k => order_Rank.l1 k p x3 (i : Int) v (c : Int) p (p.length : Int) (i : Int) y (y.length : Int) (j : Int)) r := by
  induction d with
  | zero =>
    intro j c hj hc H
    rw [List.drop_eq_nil_of_le (by omega), less, Nat.add_zero] at H
    have e1 : wrap64 (wrap64 ((p.length : Int) - (i : Int)) - 1) = ((p.length - i - 1 : Nat) : Int) := by
      rw [w64 (x := (p.length : Int) - (i : Int)) (by omega) (by omega), w64 (by omega) (by omega)]; omega
    have H2 : Ev (fun k => (order_Count.f k ((p.length - i - 1 : Nat) : Int)).bind fun t => order_Rank.l0 k p (wrap64 (x3 + wrap64 ((c : Int) * t))) p (p.length : Int) (wrap64 ((i : Int) + 1))) r := by
      have hc := Count_ev ((p.length - i - 1 : Nat) : Int)
      rw [cnt_nat (by omega)] at hc
      exact Ev.bind hc H
    refine Ev.step (fun k => ?_) H2
    simp only [order_Rank.l1]
    rw [if_neg (by omega), e1]
  | succ d ih =>
    intro j c hj hc H
    have hlt : j < y.length := by omega
    have hw : wrap64 ((j : Int) + 1) = ((j + 1 : Nat) : Int) := by rw [w64 (by omega) (by omega)]; omega
    have hw2 : wrap64 ((c : Int) + 1) = ((c + 1 : Nat) : Int) := by rw [w64 (by omega) (by omega)]; omega
    have ed : y.drop j = y.getD j 0 :: y.drop (j + 1) := by rw [getD_get hlt]; exact List.drop_eq_getElem_cons hlt
    rw [ed, less] at H
    have H2 : Ev (fun k => if y.getD j 0 < v then order_Rank.l1 k p x3 (i : Int) v ((c + 1 : Nat) : Int) p (p.length : Int) (i : Int) y (y.length : Int) ((j + 1 : Nat) : Int) else order_Rank.l1 k p x3 (i : Int) v (c : Int) p (p.length : Int) (i : Int) y (y.length : Int) ((j + 1 : Nat) : Int)) r := by
      by_cases h : y.getD j 0 < v
      · rw [if_pos h, ← Nat.add_assoc] at H
        exact Ev.itep h (ih (j + 1) (c + 1) (by omega) (by omega) H)
      · rw [if_neg h, Nat.zero_add] at H
        exact Ev.iten h (ih (j + 1) c (by omega) (by omega) H)
    have g1 : (j : Int) < (y.length : Int) := by omega
    have g2 : (0 : Int) ≤ (j : Int) := by omega
    refine Ev.step (fun k => ?_) H2
    simp only [order_Rank.l1]
    rw [if_pos g1, if_pos g2, if_pos g1, hw, hw2, rd_nat]
theorem Rank_l0 (p : List Int) (h8 : p.length ≤ 8) (d : Nat) : ∀ (i : Nat) (x3 : Nat), p.length = i + d → x3 + rank (p.drop i) < 1000000000 →
    Ev (fun k => order_Rank.l0 k p (x3 : Int) p (p.length : Int) (i : Int)) ((x3 + rank (p.drop i) : Nat) : Int) := by
  induction d with
  | zero =>
    intro i x3 hi hb
    rw [List.drop_eq_nil_of_le (by omega), rank, Nat.add_zero]
    refine Ev.step (f := fun _ => some (x3 : Int)) (fun k => ?_) (Ev.now _)
    simp only [order_Rank.l0]
    rw [if_neg (by omega)]
  | succ d ih =>
    intro i x3 hi hb
    have hlt : i < p.length := by omega
    have ed : p.drop i = p.getD i 0 :: p.drop (i + 1) := by rw [getD_get hlt]; exact List.drop_eq_getElem_cons hlt
    have hdl : (p.drop (i + 1)).length = p.length - i - 1 := by rw [List.length_drop]; omega
    have er : rank (p.drop i) = less (p.getD i 0) (p.drop (i + 1)) * fac (p.length - i - 1) + rank (p.drop (i + 1)) := by rw [ed, rank, hdl]
    rw [er] at hb ⊢
    have g1 : (i : Int) < (p.length : Int) := by omega
    have g2 : (0 : Int) ≤ (i : Int) := by omega
    have g3 : (0 : Int) ≤ ((i + 1 : Nat) : Int) := by omega
    have g4 : ((i + 1 : Nat) : Int) ≤ (p.length : Int) := by omega
    have hd8 : (p.drop (i + 1)).length ≤ 8 := by omega
    generalize hq : less (p.getD i 0) (p.drop (i + 1)) * fac (p.length - i - 1) = q at hb ⊢
    have e2 : ((less (p.getD i 0) (p.drop (i + 1)) : Nat) : Int) * (fac (p.length - i - 1) : Int) = (q : Int) := by rw [← hq]; exact (Int.natCast_mul _ _).symm
    have H := ih (i + 1) (x3 + q) (by omega) (by omega)
    rw [Nat.add_assoc] at H
    have q1 : wrap64 (q : Int) = (q : Int) := w64 (by omega) (by omega)
    have q2 : wrap64 ((x3 : Int) + (q : Int)) = ((x3 + q : Nat) : Int) := by clear e2 q1; rw [w64 (by omega) (by omega)]; omega
    have e3 : wrap64 ((x3 : Int) + wrap64 (((0 + less (p.getD i 0) ((p.drop (i + 1)).drop 0) : Nat) : Int) * (fac (p.length - i - 1) : Int))) = ((x3 + q : Nat) : Int) := by
      rw [List.drop_zero, Nat.zero_add, e2, q1, q2]
    have hw : wrap64 ((i : Int) + 1) = ((i + 1 : Nat) : Int) := by clear e2 q1 q2 e3; rw [w64 (by omega) (by omega)]; omega
    clear e2 q1 q2
    have H2 := Rank_l1 p h8 i hlt (x3 : Int) (p.drop (i + 1)) hd8 (p.getD i 0) (p.drop (i + 1)).length 0 0 (Nat.zero_add _).symm (Nat.le_refl _) (by rw [e3, hw]; exact H)
    refine Ev.step (fun k => ?_) H2
    simp only [order_Rank.l0]
    rw [hw, if_pos g1, if_pos g2, if_pos g1, if_pos g3, if_pos g4, rd_nat, Int.toNat_natCast]
    rfl
def rankZ (p : List Int) : Int := if rtB p = true then (rank p : Int) else -1
theorem Rank_ev (p : List Int) : Ev (fun k => order_Rank.f k p) (rankZ p) := by
  unfold order_Rank.f rankZ
  refine Ev.bind (right_ev p) ?_
  by_cases h : rtB p = true
  · rw [if_pos h]
    obtain ⟨h8, _⟩ := rtB_iff.1 h
    have hb := rank_lt p
    have hf := fac_le8 h8
    have := Rank_l0 p h8 p.length 0 0 (by omega) (by rw [List.drop_zero]; omega)
    rw [List.drop_zero, Nat.zero_add] at this
    exact Ev.itep h this
  · rw [if_neg h]
    exact Ev.iten h (Ev.now _)
theorem rank_inj : ∀ {p q : List Int}, p.Perm q → q.Nodup → rank p = rank q → p = q
  | [], q, hp, _, _ => (List.nil_perm.1 hp).symm
  | a :: s, [], hp, _, _ => by have := hp.length_eq; simp at this
  | a :: s, b :: t, hp, hn, he => by
    rcases Int.lt_trichotomy a b with h | h | h
    · have := rank_head hp h hn; omega
    · subst h
      have hp' : s.Perm t := (List.perm_cons a).1 hp
      simp only [rank] at he
      rw [less_perm hp', hp'.length_eq] at he
      rw [rank_inj hp' (List.nodup_cons.1 hn).2 (by omega)]
    · have := rank_head hp.symm h ((List.Perm.nodup_iff hp).2 hn); omega
theorem nth_of_rank {p : List Int} {k : Nat} (hp : p.Perm (up p.length)) (hk : rank p = k) : p = nth p.length (up p.length) k := by
  have hl := rank_lt p
  have := nth_spec p.length (up p.length) k (up_Up _) (up_length _) (by omega)
  exact rank_inj (hp.trans this.1.symm) ((List.Perm.nodup_iff this.1).2 (up_nodup _)) (by rw [this.2, hk])
end Go.Proofs.Ytnhnmbfhepeadaa.Pure
