/- Longest ways in a graph: ways with the length up to each point, bounds that fit each edge, and why they are the same. Plain lists, no program.
   Conditions: as each theorem's head says. -/
import Derived.RowKit
namespace Go.Proofs.YtcdddmaibchjjaaDoor.Pure
set_option linter.unusedVariables false
variable {α : Type} {fr to ln : α → Int} {l : List α} {D F : Int → Int}

/-- A way from point 0, its end ahead: each point with the length up to it. -/
def Wk (fr to ln : α → Int) (l : List α) : List (Int × Int) → Prop
  | [] => False
  | [p] => p = (0, 0)
  | p :: q :: t => (∃ e ∈ l, fr e = q.1 ∧ to e = p.1 ∧ p.2 = q.2 + ln e) ∧ Wk fr to ln l (q :: t)
/-- Lengths that fit each edge from a point that is reached. -/
def Fits (fr to ln : α → Int) (l : List α) (D : Int → Int) : Prop := 0 ≤ D 0 ∧ ∀ e ∈ l, 0 ≤ D (fr e) → D (fr e) + ln e ≤ D (to e)
theorem Wk.le (hl : ∀ e ∈ l, 0 ≤ ln e) (hD : Fits fr to ln l D) : ∀ {P : List (Int × Int)}, Wk fr to ln l P → ∀ p ∈ P, 0 ≤ p.2 ∧ p.2 ≤ D p.1
  | [], h, _, _ => h.elim
  | [p], h, q, hq => by
    rw [List.mem_singleton] at hq
    subst hq
    have : q = (0, 0) := h
    subst this
    exact ⟨Int.le_refl _, hD.1⟩
  | p :: q :: t, h, r, hr => by
    obtain ⟨⟨e, he, h1, h2, h3⟩, hw⟩ := h
    have ih := Wk.le hl hD hw
    rcases List.mem_cons.1 hr with rfl | hr
    · obtain ⟨a, b⟩ := ih q List.mem_cons_self
      have c := hD.2 e he (by rw [h1]; omega)
      have d := hl e he
      rw [h1, h2] at c
      exact ⟨by omega, by omega⟩
    · exact ih r hr
theorem Wk.seg (hl : ∀ e ∈ l, 0 ≤ ln e) (hD : Fits fr to ln l D) : ∀ {p : Int × Int} {t : List (Int × Int)}, Wk fr to ln l (p :: t) → ∀ q ∈ t, D q.1 + (p.2 - q.2) ≤ D p.1
  | p, [], _, q, hq => by cases hq
  | p, r :: t, h, q, hq => by
    have hle := Wk.le hl hD h.2
    obtain ⟨⟨e, he, h1, h2, h3⟩, hw⟩ := h
    obtain ⟨a, b⟩ := hle r List.mem_cons_self
    have c := hD.2 e he (by rw [h1]; omega)
    rw [h1, h2] at c
    rcases List.mem_cons.1 hq with rfl | hq
    · omega
    · have := Wk.seg hl hD hw q hq
      omega
theorem Wk.fresh (hl : ∀ e ∈ l, 0 ≤ ln e) (hD : Fits fr to ln l D) {p : Int × Int} {t : List (Int × Int)} (h : Wk fr to ln l (p :: t)) (hlt : ∀ q ∈ t, q.1 = p.1 → q.2 < p.2) : p.1 ∉ t.map Prod.fst := by
  intro hm
  obtain ⟨q, hq, e⟩ := List.mem_map.1 hm
  have h1 := Wk.seg hl hD h q hq
  have h2 := hlt q hq e
  rw [e] at h1
  omega
theorem Wk.mono {l' : List α} (hs : ∀ e ∈ l, e ∈ l') : ∀ {P : List (Int × Int)}, Wk fr to ln l P → Wk fr to ln l' P
  | [], h => h
  | [_], h => h
  | _ :: _ :: _, ⟨⟨e, he, h⟩, hw⟩ => ⟨⟨e, hs e he, h⟩, Wk.mono hs hw⟩
theorem Wk.points {n : Int} (hn : 1 ≤ n) (hl : ∀ e ∈ l, 0 ≤ to e ∧ to e < n) : ∀ {P : List (Int × Int)}, Wk fr to ln l P → ∀ p ∈ P, 0 ≤ p.1 ∧ p.1 < n
  | [], h, _, _ => h.elim
  | [p], h, q, hq => by
    rw [List.mem_singleton] at hq
    subst hq
    have : q = (0, 0) := h
    subst this
    exact ⟨Int.le_refl _, by show (0 : Int) < n; omega⟩
  | p :: q :: t, ⟨⟨e, he, h1, h2, h3⟩, hw⟩, r, hr => by
    rcases List.mem_cons.1 hr with rfl | hr
    · rw [← h2]; exact hl e he
    · exact Wk.points hn hl hw r hr
/-- Numbers below n, no one twice, are n at most. -/
theorem nodup_le : ∀ {n : Nat} {P : List Int}, P.Nodup → (∀ x ∈ P, 0 ≤ x ∧ x < (n : Int)) → P.length ≤ n
  | 0, [], _, _ => Nat.le_refl _
  | 0, x :: t, _, h => by have := h x List.mem_cons_self; omega
  | n + 1, P, hn, h => by
    have h1 : (P.filter fun x => decide (x ≠ (n : Int))).length ≤ n := nodup_le (hn.filter _) (fun x hx => by
      rw [List.mem_filter] at hx
      have := h x hx.1
      have h2 := of_decide_eq_true hx.2
      omega)
    have h2 : P.length ≤ (P.filter fun x => decide (x ≠ (n : Int))).length + 1 := by
      clear h1 h
      induction P with
      | nil => simp
      | cons x t ih =>
        obtain ⟨hx, ht⟩ := List.nodup_cons.1 hn
        by_cases e : x = (n : Int)
        · have : t.filter (fun x => decide (x ≠ (n : Int))) = t := by
            rw [List.filter_eq_self]
            intro y hy
            apply decide_eq_true
            intro e2
            exact hx (by rw [e, ← e2]; exact hy)
          rw [List.filter_cons_of_neg (by simp [e]), this]
          simp
        · have := ih ht
          rw [List.filter_cons_of_pos (by simp [e])]
          simp only [List.length_cons]
          omega
    omega
end Go.Proofs.YtcdddmaibchjjaaDoor.Pure
