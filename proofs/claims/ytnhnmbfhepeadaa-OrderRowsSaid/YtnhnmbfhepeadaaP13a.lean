/- Plain laws of rows in order: their places (rank), the row at a place, and the next row. Lists of numbers alone, no program.
   Conditions: as each theorem's head says. -/
import Derived.RowKit
namespace Go.Proofs.Ytnhnmbfhepeadaa.Pure
set_option linter.unusedVariables false

def fac : Nat → Nat
  | 0 => 1
  | n + 1 => (n + 1) * fac n
theorem fac_pos (n : Nat) : 0 < fac n := by
  induction n with
  | zero => decide
  | succ n ih => exact Nat.mul_pos (by omega) ih
/-- How many numbers of a row are less than one. -/
def less (v : Int) : List Int → Nat
  | [] => 0
  | w :: t => (if w < v then 1 else 0) + less v t
/-- The place of a row. -/
def rank : List Int → Nat
  | [] => 0
  | v :: t => less v t * fac t.length + rank t
/-- The row at a place, of what is left. -/
def nth : Nat → List Int → Nat → List Int
  | 0, _, _ => []
  | m + 1, left, k => left.getD (k / fac m) 0 :: nth m (left.eraseIdx (k / fac m)) (k % fac m)
theorem less_le (v : Int) (l : List Int) : less v l ≤ l.length := by
  induction l with
  | nil => exact Nat.le_refl _
  | cons w t ih => simp only [less, List.length_cons]; split <;> omega
theorem less_append (v : Int) (a b : List Int) : less v (a ++ b) = less v a + less v b := by
  induction a with
  | nil => simp [less]
  | cons w t ih => simp only [List.cons_append, less, ih]; omega
theorem less_perm {v : Int} {a b : List Int} (h : a.Perm b) : less v a = less v b := by
  induction h with
  | nil => rfl
  | cons x _ ih => simp only [less, ih]
  | swap x y l => simp only [less]; omega
  | trans _ _ h1 h2 => rw [h1, h2]
theorem rank_lt (l : List Int) : rank l < fac l.length := by
  induction l with
  | nil => decide
  | cons v t ih =>
    simp only [rank, List.length_cons, fac]
    have h := less_le v t
    have : less v t * fac t.length ≤ t.length * fac t.length := Nat.mul_le_mul_right _ h
    rw [Nat.add_mul, Nat.one_mul]
    omega
/-- Strictly rising rows. -/
def Up (l : List Int) : Prop := l.Pairwise (· < ·)
theorem Up.erase {l : List Int} (h : Up l) (i : Nat) : Up (l.eraseIdx i) := h.sublist (List.eraseIdx_sublist _ _)
theorem getD_get {l : List Int} {i : Nat} (h : i < l.length) : l.getD i 0 = l[i] := by
  rw [List.getD_eq_getElem?_getD, List.getElem?_eq_getElem h]; rfl
theorem less_zero {v : Int} {l : List Int} (h : ∀ x ∈ l, v ≤ x) : less v l = 0 := by
  induction l with
  | nil => rfl
  | cons w t ih =>
    have := h w (by simp)
    simp only [less]
    rw [if_neg (by omega), ih (fun x hx => h x (by simp [hx]))]
theorem less_all {v : Int} {l : List Int} (h : ∀ x ∈ l, x < v) : less v l = l.length := by
  induction l with
  | nil => rfl
  | cons w t ih =>
    have := h w (by simp)
    simp only [less, List.length_cons]
    rw [if_pos (by omega), ih (fun x hx => h x (by simp [hx]))]; omega
theorem Up.less_at {l : List Int} (h : Up l) {i : Nat} (hi : i < l.length) : less (l.getD i 0) (l.eraseIdx i) = i := by
  have e : l = l.take i ++ l[i] :: l.drop (i + 1) := by rw [List.getElem_cons_drop, List.take_append_drop]
  rw [getD_get hi, List.eraseIdx_eq_take_drop_succ, less_append]
  have hp : Up (l.take i ++ l[i] :: l.drop (i + 1)) := e ▸ h
  have hp' := List.pairwise_append.1 hp
  have h1 : less l[i] (l.take i) = i := by
    rw [less_all (fun x hx => hp'.2.2 x hx _ (List.mem_cons_self ..)), List.length_take]; omega
  have h2 : less l[i] (l.drop (i + 1)) = 0 := less_zero fun x hx => by
    have := (List.pairwise_cons.1 hp'.2.1).1 x hx
    omega
  omega
theorem erase_perm {l : List Int} {i : Nat} (hi : i < l.length) : (l.getD i 0 :: l.eraseIdx i).Perm l := by
  have e : l = l.take i ++ l[i] :: l.drop (i + 1) := by rw [List.getElem_cons_drop, List.take_append_drop]
  rw [getD_get hi, List.eraseIdx_eq_take_drop_succ]
  conv => rhs; rw [e]
  exact List.perm_middle.symm
theorem nth_spec (m : Nat) : ∀ (left : List Int) (k : Nat), Up left → left.length = m → k < fac m → (nth m left k).Perm left ∧ rank (nth m left k) = k := by
  induction m with
  | zero =>
    intro left k hu hl hk
    have : left = [] := List.eq_nil_of_length_eq_zero hl
    subst this
    simp only [fac] at hk
    exact ⟨List.Perm.refl _, by simp [nth, rank]; omega⟩
  | succ m ih =>
    intro left k hu hl hk
    have hp := fac_pos m
    have hi : k / fac m < left.length := by rw [hl]; exact (Nat.div_lt_iff_lt_mul hp).2 hk
    have hlen : (left.eraseIdx (k / fac m)).length = m := by rw [List.length_eraseIdx, if_pos hi]; omega
    obtain ⟨h1, h2⟩ := ih (left.eraseIdx (k / fac m)) (k % fac m) (hu.erase _) hlen (Nat.mod_lt _ hp)
    refine ⟨(List.Perm.cons _ h1).trans (erase_perm hi), ?_⟩
    simp only [nth, rank]
    rw [less_perm h1, hu.less_at hi, h1.length_eq, hlen, h2]
    exact Nat.div_add_mod' k (fac m)
/-- Two rows of as many numbers: the one that is ahead where they are unlike first has the lesser place. -/
theorem rank_head {a b : Int} {s t : List Int} (hp : (a :: s).Perm (b :: t)) (hab : a < b) (hn : (b :: t).Nodup) : rank (a :: s) < rank (b :: t) := by
  have hl : s.length = t.length := by have := hp.length_eq; simpa using this
  have hs := rank_lt s
  have h1 : less a (a :: s) = less a (b :: t) := less_perm hp
  have h2 : less b (a :: s) = less b (b :: t) := less_perm hp
  have e1 : less a (a :: s) = less a s := by simp [less]
  have e2 : less b (b :: t) = less b t := by simp [less]
  have e3 : less b (a :: s) = 1 + less b s := by simp only [less]; rw [if_pos hab]
  have mono : less a s ≤ less b s := by
    clear hp h1 h2 e1 e2 e3 hn hl hs
    induction s with
    | nil => exact Nat.le_refl _
    | cons w s ih => simp only [less]; split <;> split <;> omega
  have : less a s + 1 ≤ less b t := by omega
  have hm : (less a s + 1) * fac t.length ≤ less b t * fac t.length := Nat.mul_le_mul_right _ this
  simp only [rank]
  rw [hl] at hs ⊢
  rw [Nat.add_mul, Nat.one_mul] at hm
  omega
theorem rank_append (a : List Int) : ∀ {s t : List Int}, s.Perm t → rank s ≤ rank t → rank (a ++ t) - rank (a ++ s) = rank t - rank s ∧ rank (a ++ s) ≤ rank (a ++ t) := by
  induction a with
  | nil => intro s t _ h; exact ⟨rfl, h⟩
  | cons v a ih =>
    intro s t hp h
    obtain ⟨h1, h2⟩ := ih hp h
    have hp' : (a ++ s).Perm (a ++ t) := List.Perm.append_left a hp
    simp only [List.cons_append, rank]
    rw [less_perm hp', hp'.length_eq]
    omega
theorem rank_down {l : List Int} (h : l.Pairwise (· > ·)) : rank l + 1 = fac l.length := by
  induction l with
  | nil => rfl
  | cons v t ih =>
    obtain ⟨h1, h2⟩ := List.pairwise_cons.1 h
    have := ih h2
    simp only [rank, List.length_cons, fac]
    rw [less_all (fun x hx => h1 x hx), Nat.add_mul, Nat.one_mul]
    omega
theorem rank_up {l : List Int} (h : l.Pairwise (· < ·)) : rank l = 0 := by
  induction l with
  | nil => rfl
  | cons v t ih =>
    obtain ⟨h1, h2⟩ := List.pairwise_cons.1 h
    simp only [rank]
    rw [less_zero (fun x hx => by have := h1 x hx; omega), ih h2, Nat.zero_mul]
/-- The step: x ahead of a falling rest d1 ++ y :: d2, where y is the last one above x. -/
theorem rank_step {x y : Int} {d1 d2 : List Int} (hd : (d1 ++ y :: d2).Pairwise (· > ·)) (hxy : x < y) (h2 : ∀ z ∈ d2, z < x) :
    rank (y :: (d1 ++ x :: d2).reverse) = rank (x :: (d1 ++ y :: d2)) + 1 := by
  obtain ⟨p1, p2, p3⟩ := List.pairwise_append.1 hd
  obtain ⟨p4, p5⟩ := List.pairwise_cons.1 p2
  have hup : (d1 ++ x :: d2).Pairwise (· > ·) := by
    refine List.pairwise_append.2 ⟨p1, List.pairwise_cons.2 ⟨fun z hz => h2 z hz, p5⟩, fun a ha b hb => ?_⟩
    rcases List.mem_cons.1 hb with rfl | hb
    · have := p3 a ha y (by simp); omega
    · exact p3 a ha b (by simp [hb])
  have r1 : rank (d1 ++ x :: d2).reverse = 0 := rank_up (by rw [List.pairwise_reverse]; exact hup.imp (fun h => h))
  have r2 := rank_down hd
  have l1 : less y (d1 ++ x :: d2).reverse = 1 + d2.length := by
    rw [less_perm (List.reverse_perm _), less_append, less_zero (fun a ha => by have := p3 a ha y (by simp); omega)]
    simp only [less]
    rw [if_pos hxy, less_all (fun z hz => p4 z hz)]
    omega
  have l2 : less x (d1 ++ y :: d2) = d2.length := by
    rw [less_append, less_zero (fun a ha => by have := p3 a ha y (by simp); omega)]
    simp only [less]
    rw [if_neg (by omega), less_all h2]
    omega
  simp only [rank]
  rw [r1, l1, l2]
  have e : (d1 ++ x :: d2).reverse.length = (d1 ++ y :: d2).length := by simp; omega
  rw [e, Nat.add_mul, Nat.one_mul]
  omega
end Go.Proofs.Ytnhnmbfhepeadaa.Pure
