import Derived.Test.YtkbffpadkdgbmaaGreatDoorEvE3
/- A closed call that the evaluator runs to 'true' returns true. -/
namespace Go.Ev
open Go Go.RowKit Go.Lib
set_option linter.unusedVariables false
set_option linter.unusedSimpArgs false
set_option linter.deprecated false

theorem tabsK_of : ∀ {l : List (Nat × Blk)} {h : T Blk} {k : T Blk → Bool}, tabsK l h k = true →
    ∃ h', k h' = true ∧ (∀ m, (∀ p ∈ l, p.1 ≠ m) → T.get .dead (path m) h' = T.get .dead (path m) h) ∧ (l.Pairwise (fun p q => p.1 ≠ q.1) → ∀ p ∈ l, T.get .dead (path p.1) h' = p.2)
  | [], h, k, hk => ⟨h, hk, fun _ _ => rfl, fun _ p hp => by cases hp⟩
  | p :: l, h, k, hk => by
    obtain ⟨h1, k1, g1⟩ := T.set_of (n := p.1) (show T.setK .dead p.2 (path p.1) h (fun h => tabsK l h k) = true from hk)
    obtain ⟨h2, k2, g2, g3⟩ := tabsK_of k1
    refine ⟨h2, k2, fun m hm => ?_, fun hp q hq => ?_⟩
    · rw [g2 m fun q hq => hm q (List.mem_cons_of_mem _ hq), g1, if_neg (hm p List.mem_cons_self).symm]
    · rw [List.pairwise_cons] at hp
      cases hq with
      | head => rw [g2 p.1 fun q hq => (hp.1 q hq).symm, g1, if_pos rfl]
      | tail _ hq => exact g3 hp.2 q hq
theorem cell_row {w : World} {g j : Nat} {v : Value} (h : w.cell? ⟨g, j, none⟩ = some v) : ∃ rc e fz, w.heap[g]? = some (.cells rc e fz) ∧ rc.toList[j]? = some v := by
  unfold World.cell? at h
  split at h
  · rename_i c e fz hc
    exact ⟨c, e, fz, hc, by simpa using h⟩
  · cases h
/-- A table, as it lies in a world. -/
def TabIn (w : World) (p : Nat × Blk) : Prop := ∃ v l e, p.2 = .cells (v :: l) e .tab ∧ ∀ j u, (v :: l)[j]? = some u → w.cell? ⟨p.1, j, none⟩ = some u ∧ flat u = true
theorem runs_calls {P : Program} (hm : P.follows .mixedOrders = true) {tabs : List (Nat × Blk)} {f next fuel : Nat} {w : World} (hne : tabs.Pairwise fun p q => p.1 ≠ q.1) (hlt : ∀ p ∈ tabs, p.1 < next) (ht : ∀ p ∈ tabs, TabIn w p)
    (h : runs tabs P f next fuel = true) : Calls P f #[] w fun e w' => e = .returned (.bool true) ∧ Below w.heap.size w w' := by
  obtain ⟨h', h1, h2, h3⟩ := tabsK_of h
  have hG : mapL (fun p : Nat × Blk => p.1) tabs = tabs.map (·.1) := mapL_eq _ _
  let σ : Emb := fun b => if b ∈ tabs.map (·.1) then some (b, 0) else none
  have hσ : ∀ {b r x}, σ b = some (r, x) → b ∈ tabs.map (·.1) ∧ r = b ∧ x = 0 := fun {b r x} e => by
    simp only [σ] at e
    split at e
    · rename_i hb; cases e; exact ⟨hb, rfl, rfl⟩
    · cases e
  have hok : St.Ok ⟨h', next⟩ := fun b hb => by
    show T.get .dead (path b) h' = _
    rw [h2 b fun p hp e => by have := hlt p hp; subst e; exact absurd hb (by simpa using this), T.get_leaf]
  obtain ⟨v, a', s', h4, _, h5⟩ := (ev_ok (G := mapL (fun p : Nat × Blk => p.1) tabs) hm w.heap.size fuel).1 _ _ _ _ _ hok h1
  have hv : v = .bool true := by
    obtain ⟨b, hb, hb2⟩ := boolK_of (show boolK v (fun b => b) = true from h4)
    rw [hb, hb2]
  subst hv
  refine (h5 σ w #[] hok (fun g hg => ⟨0, ?_⟩) ⟨Nat.le_refl _, fun b r x e => ?_, fun b r x e => ?_, fun b c r x y e1 e2 _ _ => ?_⟩ rfl).mono fun e w' he => ?_
  · rw [hG] at hg
    exact if_pos hg
  · obtain ⟨hb, _, _⟩ := hσ e
    obtain ⟨p, hp, rfl⟩ := List.mem_map.1 hb
    exact hlt p hp
  · obtain ⟨hb, rfl, rfl⟩ := hσ e
    obtain ⟨p, hp, rfl⟩ := List.mem_map.1 hb
    obtain ⟨v, l, t, hpt, hc⟩ := ht p hp
    have : St.blk ⟨h', next⟩ p.1 = .cells (v :: l) t .tab := by
      show T.get .dead (path p.1) h' = _
      rw [h3 hne p hp, hpt]
    rw [this]
    obtain ⟨rc, e', fz, q1, q2⟩ := cell_row (hc 0 v rfl).1
    refine ⟨rc, e', fz, q1, ?_, .inr rfl, fun hq => hq.elim⟩
    have : rc.toList.take (v :: l).length = v :: l := by
      apply List.ext_getElem?
      intro j
      by_cases hj : j < (v :: l).length
      · rw [List.getElem?_take_of_lt hj]
        obtain ⟨u, hu⟩ : ∃ u, (v :: l)[j]? = some u := ⟨(v :: l)[j], List.getElem?_eq_getElem hj⟩
        obtain ⟨rc2, e2, fz2, q3, q4⟩ := cell_row (hc j u hu).1
        rw [q1] at q3; cases q3
        rw [q4, hu]
      · rw [List.getElem?_eq_none (by simp only [List.length_take]; omega), List.getElem?_eq_none (by omega)]
    rw [this]
    refine F2.refl fun c hcm => fun _ => flat_refl c ?_
    obtain ⟨j, hj⟩ := List.getElem?_of_mem hcm
    exact (hc j c hj).2
  · rw [← (hσ e1).2.1, ← (hσ e2).2.1]
  · obtain ⟨v', τ, rfl, r1, _, _, r4⟩ := he
    simp only [VR] at r1
    subst r1
    exact ⟨rfl, r4⟩
#print axioms runs_calls
end Go.Ev
