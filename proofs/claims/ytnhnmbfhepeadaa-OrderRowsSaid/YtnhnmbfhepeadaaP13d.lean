/- Which rows are orders, and the place of an order.
   Conditions: as each theorem's head says. -/
import Derived.Test.YtnhnmbfhepeadaaP13c
namespace Go.Proofs.Ytnhnmbfhepeadaa.Pure
set_option linter.unusedVariables false
open Go.RowKit Go.Proofs.Ytnhnmbfhepeadaa.X Go.Proofs.YtnhnmbfhepeadaaW.PrintWords Go.Proofs.YtnhnmbfhepeadaaW.PrintLast Go.Proofs.YtnhnmbfhepeadaaW.PrintMore

theorem perm_of : ∀ {a b : List Int}, a.Nodup → (∀ x ∈ a, x ∈ b) → b.length ≤ a.length → a.Perm b
  | [], b, _, _, hl => by
    have : b = [] := List.eq_nil_of_length_eq_zero (by simpa using hl)
    subst this; exact List.Perm.refl _
  | x :: t, b, hn, hs, hl => by
    obtain ⟨hx, ht⟩ := List.nodup_cons.1 hn
    have hb : x ∈ b := hs x List.mem_cons_self
    have hp := List.perm_cons_erase hb
    have hlb := hp.length_eq
    have := perm_of (a := t) (b := b.erase x) ht (fun y hy => by
      have h1 := hs y (List.mem_cons_of_mem _ hy)
      have h2 : y ≠ x := fun e => hx (e ▸ hy)
      exact (List.mem_erase_of_ne h2).2 h1) (by simp at hl hlb; omega)
    exact (List.Perm.cons x this).trans hp.symm
/-- Is a row an order? -/
def allIn (l p : List Int) : Bool := l.all fun v => decide (v ∈ p)
def rtB (p : List Int) : Bool := decide (p.length ≤ 8) && allIn (up p.length) p
theorem rtB_len {p : List Int} (h : ¬ p.length ≤ 8) : rtB p = false := by unfold rtB; rw [decide_eq_false h]; rfl
theorem rtB_iff {p : List Int} : rtB p = true ↔ p.length ≤ 8 ∧ p.Perm (up p.length) := by
  unfold rtB allIn
  rw [Bool.and_eq_true, decide_eq_true_eq, List.all_eq_true]
  constructor
  · rintro ⟨h, k⟩
    exact ⟨h, (perm_of (up_nodup _) (fun x hx => of_decide_eq_true (k x hx)) (by rw [up_length]; exact Nat.le_refl _)).symm⟩
  · rintro ⟨h, k⟩
    exact ⟨h, fun v hv => decide_eq_true (k.mem_iff.2 hv)⟩
theorem right_l0 (p : List Int) (h8 : p.length ≤ 8) (d : Nat) : ∀ (i : Nat) (s : List Bool), p.length = i + d → s.length = 8 → (∀ u : Nat, u < 8 → s.getD u false = decide ((u : Int) ∈ p.take i)) → (p.take i).Nodup → (∀ v ∈ p.take i, 0 ≤ v ∧ v < (p.length : Int)) → Ev (fun k => order_right.l0 k p s (i : Int)) (rtB p) := by
  induction d with
  | zero =>
    intro i s hi hs hm hn hr
    rw [List.take_of_length_le (by omega)] at hn hr
    have : rtB p = true := rtB_iff.2 ⟨h8, perm_of hn (fun x hx => up_mem.2 (hr x hx)) (by rw [up_length]; exact Nat.le_refl _)⟩
    rw [this]
    refine Ev.step (f := fun _ => some true) (fun k => ?_) (Ev.now _)
    simp only [order_right.l0]
    rw [if_neg (by omega)]
  | succ d ih =>
    intro i s hi hs hm hn hr
    have hlt : i < p.length := by omega
    have hw : wrap64 ((i : Int) + 1) = ((i + 1 : Nat) : Int) := by rw [w64 (by omega) (by omega)]; omega
    have hv : p.getD i 0 ∈ p := by rw [getD_get hlt]; exact List.getElem_mem hlt
    have et : p.take (i + 1) = p.take i ++ [p.getD i 0] := by rw [List.take_succ_eq_append_getElem hlt, getD_get hlt]
    have no : (¬ (0 ≤ p.getD i 0 ∧ p.getD i 0 < (p.length : Int)) ∨ p.getD i 0 ∈ p.take i) → rtB p = false := by
      intro h
      rw [Bool.eq_false_iff]
      intro e
      obtain ⟨_, hp⟩ := rtB_iff.1 e
      rcases h with h | h
      · exact h (up_mem.1 (hp.mem_iff.1 hv))
      · have h2 : p.Nodup := (List.Perm.nodup_iff hp).2 (up_nodup _)
        have h3 : (p.take (i + 1)).Nodup := h2.sublist (List.take_sublist _ _)
        rw [et, List.nodup_append] at h3
        exact h3.2.2 _ h _ (List.mem_singleton.2 rfl) rfl
    generalize hg : p.getD i 0 = v at *
    have H : Ev (fun k => if v < 0 then some false else (if v ≥ (p.length : Int) then some false else (if s.getD v.toNat false = true then some false else order_right.l0 k p (s.set v.toNat true) ((i + 1 : Nat) : Int)))) (rtB p) := by
      by_cases a : v < 0
      · rw [no (.inl (by omega))]; exact Ev.itep a (Ev.now _)
      · refine Ev.iten a ?_
        by_cases b : v ≥ (p.length : Int)
        · rw [no (.inl (by omega))]; exact Ev.itep b (Ev.now _)
        · refine Ev.iten b ?_
          obtain ⟨u, rfl⟩ := Int.eq_ofNat_of_zero_le (Int.not_lt.1 a)
          rw [Int.toNat_natCast, hm u (by omega)]
          by_cases c : (u : Int) ∈ p.take i
          · rw [no (.inr c)]; exact Ev.itep (decide_eq_true c) (Ev.now _)
          · refine Ev.iten (by simp [c]) (ih (i + 1) _ (by omega) (by rw [List.length_set]; exact hs) ?_ ?_ ?_)
            · intro t ht
              rw [et, List.getD_eq_getElem?_getD, List.getElem?_set]
              by_cases e : u = t
              · subst e
                rw [if_pos rfl, if_pos (by omega)]
                simp
              · rw [if_neg e, ← List.getD_eq_getElem?_getD, hm t ht, decide_eq_decide, List.mem_append, List.mem_singleton]
                constructor
                · exact .inl
                · rintro (h | h)
                  · exact h
                  · exact absurd (by omega : u = t) e
            · rw [et, List.nodup_append]
              refine ⟨hn, by simp, ?_⟩
              intro x hx y hy e
              rw [List.mem_singleton] at hy
              subst hy; subst e
              exact c hx
            · intro w hw2
              rw [et, List.mem_append, List.mem_singleton] at hw2
              rcases hw2 with h | rfl
              · exact hr w h
              · exact ⟨by omega, by omega⟩
    refine Ev.step (fun k => ?_) H
    simp only [order_right.l0]
    rw [if_pos (by omega), if_pos (by omega), if_neg (by omega), hw, rd_nat, hg]
theorem right_ev (p : List Int) : Ev (fun k => order_right.f k p) (rtB p) := by
  unfold order_right.f
  by_cases h : p.length ≤ 8
  · exact right_l0 p h p.length 0 _ (by omega) rfl (by intro u hu; have : u = 0 ∨ u = 1 ∨ u = 2 ∨ u = 3 ∨ u = 4 ∨ u = 5 ∨ u = 6 ∨ u = 7 := by omega
                                                       rcases this with rfl | rfl | rfl | rfl | rfl | rfl | rfl | rfl <;> simp) (by simp) (by simp)
  · rw [rtB_len h]
    refine Ev.step (f := fun _ => some false) (fun k => ?_) (Ev.now _)
    simp only [order_right.l0]
    rw [if_pos (by omega), if_pos (by omega), if_pos (by omega)]
/-! ### the place -/
theorem rank_inj : ∀ {p q : List Int}, p.Perm q → q.Nodup → rank p = rank q → p = q
  | [], q, hp, _, _ => (List.nil_perm.1 hp).symm
  | a :: s, [], hp, _, _ => by have := hp.length_eq; simp at this
  | a :: s, b :: t, hp, hn, he => by
    rcases Int.lt_trichotomy a b with h | h | h
    · have := rank_head hp h hn; omega
    · subst h
      have hp' : s.Perm t := (List.perm_cons a).1 hp
      simp only [rank] at he
      rw [less_perm hp', hp'.length_eq] at he
      rw [rank_inj hp' (List.nodup_cons.1 hn).2 (by omega)]
    · have := rank_head hp.symm h ((List.Perm.nodup_iff hp).2 hn); omega
theorem nth_of_rank {p : List Int} {k : Nat} (hp : p.Perm (up p.length)) (hk : rank p = k) : p = nth p.length (up p.length) k := by
  have hl := rank_lt p
  have := nth_spec p.length (up p.length) k (up_Up _) (up_length _) (by omega)
  exact rank_inj (hp.trans this.1.symm) ((List.Perm.nodup_iff this.1).2 (up_nodup _)) (by rw [this.2, hk])
end Go.Proofs.Ytnhnmbfhepeadaa.Pure
