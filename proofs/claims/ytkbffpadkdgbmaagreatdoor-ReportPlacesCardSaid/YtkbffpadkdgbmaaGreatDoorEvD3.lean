import Derived.Test.YtkbffpadkdgbmaaGreatDoorEvD2
/- Regions whose order is drawn: whatever the order, what was told comes of it. -/
namespace Go.Ev
open Go Go.RowKit Go.Lib
set_option linter.unusedVariables false
set_option linter.unusedSimpArgs false
set_option linter.deprecated false

section
variable {P : Program} {base : Nat} {G : List Nat}
theorem good_split : ∀ {l1 l2 : List Stp} {done : List Stp} {a a' : Fr} {s s' : St}, Good P base G done a s (l1 ++ l2) a' s' → DI done a → ∃ b u, Good P base G done a s l1 b u ∧ Good P base G (l1.reverse ++ done) b u l2 a' s' ∧ DI (l1.reverse ++ done) b
  | [], l2, done, a, a', s, s', h, hd => ⟨a, s, ⟨rfl, rfl⟩, h, hd⟩
  | x :: l1, l2, done, a, a', s, s', h, hd => by
    obtain ⟨h1, h2, h3, h4⟩ := h
    obtain ⟨b, u, h5, h6, h7⟩ := good_split h4 (DI.cons (by rw [h1]; exact hd) h3)
    refine ⟨b, u, ⟨h1, h2, h3, h5⟩, ?_, ?_⟩
    · simpa using h6
    · simpa using h7
theorem di_nil (a : Fr) : DI [] a := ⟨fun l1 f l2 e => by simp at e, fun f hf => by (cases hf), fun l1 f l2 e => by simp at e, List.Pairwise.nil, fun f hf => by (cases hf)⟩
/-- A step of the run, by its place. -/
theorem good_at {l1 l2 : List Stp} {x : Stp} {a a' : Fr} {s s' : St} (h : Good P base G [] a s (l1 ++ x :: l2) a' s') :
    SF P base G l1.reverse x ∧ DI l1.reverse x.a ∧ Good P base G (x :: l1.reverse) x.a1 x.s1 l2 a' s' ∧ Good P base G [] a s l1 x.a x.s := by
  obtain ⟨b, u, h1, h2, h3⟩ := good_split h (di_nil a)
  simp only [List.append_nil] at h2 h3
  obtain ⟨h4, h5, h6, h7⟩ := h2
  subst h4; subst h5
  exact ⟨h6, h3, h7, h1⟩
theorem good_up : ∀ {l : List Stp} {done : List Stp} {a a' : Fr} {s s' : St}, Good P base G done a s l a' s' → s.Up s'
  | [], _, _, _, _, _, ⟨_, e⟩ => by rw [e]; exact St.Up.refl _
  | x :: l, _, _, _, _, _, ⟨_, h2, h3, h4⟩ => by rw [← h2]; exact h3.up.trans (good_up h4)
theorem good_append : ∀ {l1 l2 : List Stp} {done : List Stp} {a b c : Fr} {s t u : St}, Good P base G done a s l1 b t → Good P base G (l1.reverse ++ done) b t l2 c u → Good P base G done a s (l1 ++ l2) c u
  | [], _, _, _, _, _, _, _, _, ⟨h1, h2⟩, h => by subst h1; subst h2; exact h
  | x :: l1, l2, done, _, _, _, _, _, _, ⟨h1, h2, h3, h4⟩, h => ⟨h1, h2, h3, good_append h4 (by simpa using h)⟩
/-- The blocks that were, as they were. -/
def Grow (s t : St) : Prop := s.next ≤ t.next ∧ ∀ b, b < s.next → t.blk b = s.blk b
theorem Grow.refl (s : St) : Grow s s := ⟨Nat.le_refl _, fun _ _ => rfl⟩
theorem Grow.trans {s t u : St} (h : Grow s t) (k : Grow t u) : Grow s u := ⟨Nat.le_trans h.1 k.1, fun b hb => (k.2 b (Nat.lt_of_lt_of_le hb h.1)).trans (h.2 b hb)⟩
theorem sf_quiet {done : List Stp} {x : Stp} (h : SF P base G done x) (hq : loud x.e.o.op = false) : Grow x.s x.s1 ∧ x.a1.defers = x.a.defers := by
  rcases h.step with ⟨_, _, h3, h4⟩ | ⟨_, _, h3, h4⟩ | ⟨_, h2, _⟩
  · rw [h3]; exact ⟨Grow.refl _, h4⟩
  · refine ⟨?_, h4⟩
    rcases h3 with (⟨e, _⟩ | ⟨X, hn, _⟩) | ⟨_, e, _⟩
    · rw [e]; exact Grow.refl _
    · exact ⟨by rw [hn.next]; omega, fun b hb => by rw [hn.blk, if_neg (by omega)]⟩
    · rw [e]; exact Grow.refl _
  · rw [hq] at h2; cases h2
theorem good_quiet : ∀ {l : List Stp} {done : List Stp} {a a' : Fr} {s s' : St}, Good P base G done a s l a' s' → (∀ x ∈ l, loud x.e.o.op = false) → Grow s s' ∧ a'.defers = a.defers
  | [], _, _, _, _, _, ⟨h1, h2⟩, _ => by rw [h1, h2]; exact ⟨Grow.refl _, rfl⟩
  | x :: l, _, _, _, _, _, ⟨h1, h2, h3, h4⟩, hq => by
    obtain ⟨q1, q2⟩ := sf_quiet h3 (hq x List.mem_cons_self)
    obtain ⟨q3, q4⟩ := good_quiet h4 (fun y hy => hq y (List.mem_cons_of_mem _ hy))
    rw [← h1, ← h2]
    exact ⟨q1.trans q3, q4.trans q2⟩
theorem good_n : ∀ {l : List Stp} {done : List Stp} {a a' : Fr} {s s' : St}, Good P base G done a s l a' s' → a'.n = a.n
  | [], _, _, _, _, _, ⟨h1, _⟩ => by rw [h1]
  | x :: l, _, _, _, _, _, ⟨h1, _, h3, h4⟩ => by rw [← h1, ← h3.n]; exact good_n h4
theorem split_quiet : ∀ l : List Stp, ∃ N r, l = N ++ r ∧ (∀ x ∈ N, loud x.e.o.op = false) ∧ (r = [] ∨ ∃ h t, r = h :: t ∧ loud h.e.o.op = true)
  | [] => ⟨[], [], rfl, fun x hx => (by cases hx), .inl rfl⟩
  | x :: l => by
    cases hx : loud x.e.o.op
    · obtain ⟨N, r, h1, h2, h3⟩ := split_quiet l
      refine ⟨x :: N, r, by rw [h1]; rfl, fun y hy => ?_, h3⟩
      cases hy with
      | head => exact hx
      | tail _ hy => exact h2 y hy
    · exact ⟨[], x :: l, rfl, fun x hx => (by cases hx), .inr ⟨x, l, rfl, hx⟩⟩
theorem lastLoud_some : ∀ (m : List Ent) (h : Ent) (r : List Ent), loud h.o.op = true → ∃ j, lastLoud (m ++ h :: r) = some j ∧ ∃ z ∈ m ++ [h], z.i = j
  | [], h, r, hl => ⟨h.i, by simp [lastLoud, hl], h, by simp, rfl⟩
  | x :: m, h, r, hl => by
    simp only [List.cons_append, lastLoud]
    cases hx : loud x.o.op
    · obtain ⟨j, h1, z, hz, h2⟩ := lastLoud_some m h r hl
      exact ⟨j, h1, z, List.mem_cons_of_mem _ hz, h2⟩
    · exact ⟨x.i, rfl, x, List.mem_cons_self, rfl⟩

/-- A quiet step that may still be made, in the state t. -/
def LN (P : Program) (base : Nat) (f : Stp) (t : St) (σ : Emb) : Prop :=
  (∃ X, f.s.New X f.s1 ∧ f.s.next < t.next ∧ σ f.s.next = none ∧ t.blk f.s.next = X ∧
    ∀ σ t ρ w, HR P base σ t w → OpsRel σ f.a ρ f.e.o.op → f.s.next < t.next → σ f.s.next = none → t.blk f.s.next = X →
      ∃ v' w' p, Gives ((execOp ρ f.e.o).run P w) v' w' ∧ VR (σ.put f.s.next p) f.v v' ∧ HR P base (σ.put f.s.next p) t w' ∧ Below base w w') ∨
  (∃ b, (∀ u ∈ f.e.rd, b.at u = f.a.at u) ∧ (StepP P base f.e.o b f.v ∨ reads f.e.o.op = true ∧ ∃ u, u.Ok ∧ Grow u t ∧ StepR P base f.e.o b u f.v))
end
end Go.Ev
