/- The search of package paths from its start: that it ends, and what Longest says. Plain lists.
   Conditions: as each theorem's head says. -/
import Derived.Test.YtcdddmaibchjjaaDoorH12
import Derived.Test.YtcdddmaibchjjaaDoorP14b
namespace Go.Proofs.YtcdddmaibchjjaaDoor.Pure
set_option linter.unusedVariables false
open Go.RowKit Go.Proofs.YtcdddmaibchjjaaDoor.X Go.Proofs.YtcdddmaibchjjaaDoorW.PrintWords Go.Proofs.YtcdddmaibchjjaaDoorW.PrintLast Go.Proofs.YtcdddmaibchjjaaDoorW.PrintMore
theorem Ev.eq {α : Type} {x : Option α} {r : α} (h : x = some r) : Ev (fun _ => x) r := ⟨0, fun _ _ => h⟩
theorem Ev.itep {α : Type} {c : Prop} [Decidable c] {A B : Nat → Option α} {r : α} (h : c) (k : Ev A r) : Ev (fun n => if c then A n else B n) r := by
  obtain ⟨K, hK⟩ := k
  exact ⟨K, fun n hn => by show (if c then A n else B n) = some r; rw [if_pos h]; exact hK n hn⟩
theorem Ev.iten {α : Type} {c : Prop} [Decidable c] {A B : Nat → Option α} {r : α} (h : ¬ c) (k : Ev B r) : Ev (fun n => if c then A n else B n) r := by
  obtain ⟨K, hK⟩ := k
  exact ⟨K, fun n hn => by show (if c then A n else B n) = some r; rw [if_neg h]; exact hK n hn⟩
theorem Ev.up {α : Type} {g : Nat → Option α} (hm : ∀ k r, g k = some r → g (k + 1) = some r) {k : Nat} {r : α} (h : g k = some r) : Ev g r := by
  refine ⟨k, fun m hm2 => ?_⟩
  obtain ⟨d, rfl⟩ := Nat.exists_eq_add_of_le hm2
  clear hm2
  induction d with
  | zero => exact h
  | succ d ih => exact hm _ _ ih
theorem runF_up {n : Nat} {rows : List (List S34)} : ∀ (k : Nat) (S : Int) (far edges : List Int) (r : Option (List Int × List Int)), runF n rows k S far edges = some r → runF n rows (k + 1) S far edges = some r
  | 0, _, _, _, _, h => by cases h
  | k + 1, S, far, edges, r, h => by
    unfold runF at h ⊢
    by_cases c : S = 0
    · rw [if_pos c] at h ⊢
      exact h
    · rw [if_neg c] at h ⊢
      cases hr : relaxAll n (lowOf S) (rows.getD (lowOf S).toNat []) (sDrop S (lowOf S)) far edges with
      | none => rw [hr] at h; exact h
      | some st => rw [hr] at h; exact runF_up k _ _ _ r h
theorem reachL_up {n : Nat} {rows : List (List S34)} {far : List Int} {used : Int} : ∀ (k : Nat) (O : Int) (g : Bool) (r : Int), reachL n rows far used k O g = some r → reachL n rows far used (k + 1) O g = some r
  | 0, _, _, _, h => by cases h
  | k + 1, O, g, r, h => by
    unfold reachL at h ⊢
    by_cases c : g = true
    · rw [if_pos c] at h ⊢
      exact reachL_up k _ _ r h
    · rw [if_neg c] at h ⊢
      exact h
theorem wayL_up {n : Nat} {rows : List (List S34)} {far : List Int} {dest : Int} : ∀ (k : Nat) (at_ U : Int) (out : List Int) (r : List Int), wayL n rows far dest k at_ U out = some r → wayL n rows far dest (k + 1) at_ U out = some r
  | 0, _, _, _, _, h => by cases h
  | k + 1, at_, U, out, r, h => by
    rw [wayL] at h ⊢
    by_cases c : at_ = dest
    · rw [if_pos c] at h ⊢
      exact h
    · rw [if_neg c] at h ⊢
      obtain ⟨good, h1, h2⟩ := Option.bind_eq_some_iff.1 h
      rw [reachL_up k _ _ _ h1]
      simp only [Option.bind_some]
      split at h2
      · rename_i c2
        rw [if_pos c2]
        exact h2
      · rename_i c2
        rw [if_neg c2]
        split at h2
        · rename_i c3
          rw [if_pos c3]
          exact wayL_up k _ _ _ r h2
        · cases h2
theorem solvedF_up {n : Int} {l : List S34} (k : Nat) (r : Option (List Int × List Int) × Int) (h : solvedF k n l = some r) : solvedF (k + 1) n l = some r := by
  unfold solvedF at h ⊢
  by_cases c : rightF n l = true
  · rw [if_pos c] at h ⊢
    obtain ⟨q, h1, h2⟩ := Option.bind_eq_some_iff.1 h
    rw [runF_up k _ _ _ _ h1]
    exact h2
  · rw [if_neg c] at h ⊢
    exact h
theorem Longest_up {n : Int} {l : List S34} (k : Nat) (r : List Int × Int) (h : paths_Longest.f k n l = some r) : paths_Longest.f (k + 1) n l = some r := by
  unfold paths_Longest.f at h ⊢
  obtain ⟨q, h1, h2⟩ := Option.bind_eq_some_iff.1 h
  rw [solvedF_up k _ h1]
  exact h2
theorem Way_up {n : Int} {l : List S34} {dest : Int} (k : Nat) (r : List Int) (h : paths_Way.f k n l dest = some r) : paths_Way.f (k + 1) n l dest = some r := by
  unfold paths_Way.f at h ⊢
  obtain ⟨⟨q, x⟩, h1, h2⟩ := Option.bind_eq_some_iff.1 h
  rw [solvedF_up k _ h1]
  simp only [Option.bind_some]
  cases q with
  | none => exact h2
  | some fe =>
    dsimp only at h2 ⊢
    by_cases c1 : dest < 0
    · rw [if_pos c1] at h2 ⊢; exact h2
    rw [if_neg c1] at h2 ⊢
    by_cases c2 : n ≤ dest
    · rw [if_pos c2] at h2 ⊢; exact h2
    rw [if_neg c2] at h2 ⊢
    by_cases c3 : rd fe.1 dest < 0
    · rw [if_pos c3] at h2 ⊢; exact h2
    rw [if_neg c3] at h2 ⊢
    exact wayL_up k _ _ _ r h2
theorem Inv.start {n : Nat} {l : List S34} (hn1 : 1 ≤ n) (hg : Gr n l) : ∃ f, Inv n l f (fun _ => False) (sPut 0 0) (X.start n) (List.replicate n 0) := by
  refine ⟨_, { bd := Bd.start hn1, set := SetOf.zero.put (q := 0) (by decide) (by decide), pts := fun i hi => ?_, zero := ?_, way := fun v h0 h1 => ?_, fit := fun e he _ => ?_ }⟩
  · simp at hi
    subst hi
    refine ⟨by omega, ?_⟩
    rw [show ((0 : Nat) : Int) = 0 from rfl, rd_start (n := n) (v := 0) (by omega) (by omega)]
    decide
  · rw [rd_start (n := n) (v := 0) (by omega) (by omega)]
    decide
  · by_cases c : v = 0
    · subst c
      have e : rd (X.start n) 0 = 0 := by rw [rd_start h0 h1]; decide
      have e2 : rd (List.replicate n 0) 0 = 0 := rd_rep 0 h0 h1
      refine .inr ⟨[(0, 0)], rfl, by rw [e]; rfl, by rw [e2]; rfl, ⟨fun q hq => (by cases hq), trivial⟩, fun q hq => ?_⟩
      rw [List.mem_singleton] at hq
      subst hq
      show (0 : Int) ≤ rd (X.start n) 0
      rw [e]
      decide
    · rw [rd_start h0 h1, if_neg c]
      exact .inl rfl
  · obtain ⟨⟨a, b⟩, _⟩ := hg e he
    by_cases c : e.f0 = 0
    · refine .inr (.inr ?_)
      rw [c]
      rfl
    · rw [rd_start a b, if_neg c]
      exact .inl (by decide)
theorem right_gr {n : Int} {l : List S34} (h : rightF n l = true) : 1 ≤ n.toNat ∧ n.toNat ≤ 64 ∧ (n.toNat : Int) = n ∧ Gr n.toNat l := by
  obtain ⟨⟨h1, h2⟩, _, h3⟩ := rightF_says h
  refine ⟨by omega, by omega, by omega, fun e he => ?_⟩
  rw [Int.toNat_of_nonneg (by omega)]
  exact h3 e he
/-- What the search says at its end. -/
def Found (n : Nat) (l : List S34) (fe : List Int × List Int) : Prop := FitsE l (rd fe.1) ∧ Bd n fe.1 fe.2 ∧ ∀ v : Int, 0 ≤ v → v < n → rd fe.1 v = -1 ∨ Reached l fe.1 fe.2 v
theorem solved_ev {n : Int} {l : List S34} (h : rightF n l = true) : (∃ fe, Ev (fun k => solvedF k n l) (some fe, 0) ∧ Found n.toNat l fe) ∨ (Ev (fun k => solvedF k n l) (none, 140) ∧ ∀ D, ¬ FitsE l D) := by
  obtain ⟨h1, h2, _, h3⟩ := right_gr h
  obtain ⟨f, hi⟩ := Inv.start h1 h3
  obtain ⟨k, r, hk, hA, hB⟩ := run_ends h1 h2 h3 (pot (X.start n.toNat) + 1) ((sPut 0 0).toNat + 1) _ _ _ f hi (by omega) (by omega)
  have e : solvedF k n l = some (r, if r.isSome then 0 else 140) := by
    unfold solvedF
    rw [if_pos h, hk]
    rfl
  cases r with
  | none => exact .inr ⟨Ev.up solvedF_up e, hA rfl⟩
  | some fe => exact .inl ⟨fe, Ev.up solvedF_up e, hB fe rfl⟩
theorem Longest_ev {n : Int} {l : List S34} (h : rightF n l = true) : (∃ fe, Ev (fun k => paths_Longest.f k n l) (fe.1, 0) ∧ Found n.toNat l fe) ∨ (Ev (fun k => paths_Longest.f k n l) ([], 140) ∧ ∀ D, ¬ FitsE l D) := by
  rcases solved_ev h with ⟨fe, h1, h2⟩ | ⟨h1, h2⟩
  · exact .inl ⟨fe, Ev.bind h1 (Ev.eq rfl), h2⟩
  · exact .inr ⟨Ev.bind h1 (Ev.eq rfl), h2⟩
theorem Longest_bad {n : Int} {l : List S34} (h : rightF n l = false) : Ev (fun k => paths_Longest.f k n l) ([], 1) := by
  refine ⟨0, fun k _ => ?_⟩
  show paths_Longest.f k n l = _
  unfold paths_Longest.f solvedF
  rw [if_neg (by rw [h]; decide)]
  rfl
end Go.Proofs.YtcdddmaibchjjaaDoor.Pure
