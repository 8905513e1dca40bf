import Derived.Test.YtkbffpadkdgbmaaGreatDoorEvA
import Derived.Below
/- What the evaluator's values, blocks and frames say of the model's: the relations, and what each step of the evaluator tells. -/
namespace Go.Ev
open Go
set_option linter.unusedVariables false
set_option linter.unusedSimpArgs false
set_option linter.deprecated false

/-! Paths, tries. -/
theorem beqN (a b : Nat) : Nat.beq a b = decide (a = b) := by
  by_cases h : a = b
  · subst h; simp
  · cases hb : Nat.beq a b
    · simp [h]
    · exact absurd (Nat.eq_of_beq_eq_true hb) h
theorem beqN_true {a b : Nat} (h : Nat.beq a b = true) : a = b := Nat.eq_of_beq_eq_true h

theorem path_inj : ∀ (f g n m : Nat), n < f → m < g → pathF f n = pathF g m → n = m := by
  intro f
  induction f with
  | zero => intro g n m h; omega
  | succ f ih =>
    intro g n m hn hm h
    cases g with
    | zero => omega
    | succ g =>
      have e1 : pathF (f + 1) n = bif Nat.beq n 0 then .e else bif Nat.beq (n % 2) 1 then .o (pathF f (n / 2)) else .i (pathF f (n / 2 - 1)) := rfl
      have e2 : pathF (g + 1) m = bif Nat.beq m 0 then .e else bif Nat.beq (m % 2) 1 then .o (pathF g (m / 2)) else .i (pathF g (m / 2 - 1)) := rfl
      rw [e1, e2] at h
      simp only [beqN] at h
      by_cases a1 : n = 0
      · by_cases a2 : m = 0
        · omega
        · by_cases a3 : m % 2 = 1
          · simp [a1, a2, a3] at h
          · simp [a1, a2, a3] at h
      · by_cases a2 : m = 0
        · by_cases a3 : n % 2 = 1
          · simp [a1, a2, a3] at h
          · simp [a1, a2, a3] at h
        · by_cases a3 : n % 2 = 1
          · by_cases a4 : m % 2 = 1
            · simp only [a1, a2, a3, a4, decide_true, decide_false, cond_true, cond_false, Pth.o.injEq] at h
              have := ih g _ _ (by omega) (by omega) h
              omega
            · simp [a1, a2, a3, a4] at h
          · by_cases a4 : m % 2 = 1
            · simp [a1, a2, a3, a4] at h
            · simp only [a1, a2, a3, a4, decide_false, cond_false, Pth.i.injEq] at h
              have := ih g _ _ (by omega) (by omega) h
              omega

theorem path_ne {n m : Nat} (h : n ≠ m) : path n ≠ path m := fun e => h (path_inj _ _ n m (by omega) (by omega) e)

theorem T.get_leaf {α : Type} (d : α) : ∀ p : Pth, T.get d p .leaf = d
  | .e => rfl
  | .o _ => rfl
  | .i _ => rfl

theorem T.setK_of {α : Type} (d a : α) : ∀ (p : Pth) (t : T α) (k : T α → Bool), T.setK d a p t k = true →
    ∃ t', k t' = true ∧ T.get d p t' = a ∧ ∀ q, q ≠ p → T.get d q t' = T.get d q t := by
  intro p
  induction p with
  | e =>
    intro t k h
    cases t with
    | leaf =>
      refine ⟨_, h, rfl, ?_⟩
      intro q hq
      cases q with
      | e => exact absurd rfl hq
      | o q => exact (T.get_leaf d q).trans rfl
      | i q => exact (T.get_leaf d q).trans rfl
    | node l v r =>
      refine ⟨_, h, rfl, ?_⟩
      intro q hq
      cases q with
      | e => exact absurd rfl hq
      | o q => rfl
      | i q => rfl
  | o p ih =>
    intro t k h
    cases t with
    | leaf =>
      obtain ⟨t', h1, h2, h3⟩ := ih .leaf (fun l => k (.node l d .leaf)) h
      refine ⟨_, h1, h2, ?_⟩
      intro q hq
      cases q with
      | e => rfl
      | o q => exact (h3 q (fun e => hq (by rw [e]))).trans (T.get_leaf d q)
      | i q => exact (T.get_leaf d q).trans rfl
    | node l v r =>
      obtain ⟨t', h1, h2, h3⟩ := ih l (fun l => k (.node l v r)) h
      refine ⟨_, h1, h2, ?_⟩
      intro q hq
      cases q with
      | e => rfl
      | o q => exact h3 q (fun e => hq (by rw [e]))
      | i q => rfl
  | i p ih =>
    intro t k h
    cases t with
    | leaf =>
      obtain ⟨t', h1, h2, h3⟩ := ih .leaf (fun r => k (.node .leaf d r)) h
      refine ⟨_, h1, h2, ?_⟩
      intro q hq
      cases q with
      | e => rfl
      | o q => exact (T.get_leaf d q).trans rfl
      | i q => exact (h3 q (fun e => hq (by rw [e]))).trans (T.get_leaf d q)
    | node l v r =>
      obtain ⟨t', h1, h2, h3⟩ := ih r (fun r => k (.node l v r)) h
      refine ⟨_, h1, h2, ?_⟩
      intro q hq
      cases q with
      | e => rfl
      | o q => rfl
      | i q => exact h3 q (fun e => hq (by rw [e]))

theorem T.set_of {α : Type} {d a : α} {n : Nat} {t : T α} {k : T α → Bool} (h : T.setK d a (path n) t k = true) :
    ∃ t', k t' = true ∧ ∀ m, T.get d (path m) t' = if m = n then a else T.get d (path m) t := by
  obtain ⟨t', h1, h2, h3⟩ := T.setK_of d a (path n) t k h
  refine ⟨t', h1, fun m => ?_⟩
  by_cases hm : m = n
  · subst hm; simp [h2]
  · simp [hm, h3 _ (path_ne hm)]

/-! Values. -/
/-- Where a block lies in truth, and how much room is behind what the evaluator tells of it. -/
abbrev Emb := Nat → Option (Nat × Nat)

mutual
def VR (σ : Emb) : Value → Value → Prop
  | .pointer (some a), v' => ∃ r x, σ a.block = some (r, x) ∧ a.spot = none ∧ v' = .pointer (some ⟨r, a.off, none⟩)
  | .slice (some a) n c, v' => ∃ r x, σ a.block = some (r, x) ∧ a.spot = none ∧ v' = .slice (some ⟨r, a.off, none⟩) n (c + x)
  | .map (some b), v' => ∃ r x, σ b = some (r, x) ∧ v' = .map (some r)
  | .chan (some _), _ => False
  | .func fn f c, v' => ∃ f' c', v' = .func fn f' c' ∧ AR σ f f' ∧ AR σ c c'
  | .iface t v, v' => ∃ u, v' = .iface t u ∧ VR σ v u
  | .agg c, v' => ∃ c', v' = .agg c' ∧ AR σ c c'
  | .tuple c, v' => ∃ c', v' = .tuple c' ∧ AR σ c c'
  | .bool b, v' => v' = .bool b
  | .int k n, v' => v' = .int k n
  | .float k n, v' => v' = .float k n
  | .complex k n m, v' => v' = .complex k n m
  | .string s, v' => v' = .string s
  | .pointer none, v' => v' = .pointer none
  | .slice none n c, v' => v' = .slice none n c
  | .map none, v' => v' = .map none
  | .chan none, v' => v' = .chan none
  | .nilFunc, v' => v' = .nilFunc
  | .nilIface, v' => v' = .nilIface
def AR (σ : Emb) : Array Value → Array Value → Prop
  | ⟨l⟩, a' => LR σ l a'.toList
def LR (σ : Emb) : List Value → List Value → Prop
  | [], l' => l' = []
  | h :: t, l' => ∃ h' t', l' = h' :: t' ∧ VR σ h h' ∧ LR σ t t'
end

/-- More is laid. -/
def Emb.le (σ τ : Emb) : Prop := ∀ b p, σ b = some p → τ b = some p
theorem Emb.le.refl (σ : Emb) : Emb.le σ σ := fun _ _ h => h
theorem Emb.le.trans {σ τ υ : Emb} (h : Emb.le σ τ) (k : Emb.le τ υ) : Emb.le σ υ := fun b p e => k b p (h b p e)

mutual
theorem VR.mono {σ τ : Emb} (hl : Emb.le σ τ) : ∀ (v v' : Value), VR σ v v' → VR τ v v'
  | .pointer (some a), v', h => by
    simp only [VR] at h ⊢
    obtain ⟨r, x, h1, h2⟩ := h
    exact ⟨r, x, hl _ _ h1, h2⟩
  | .slice (some a) n c, v', h => by
    simp only [VR] at h ⊢
    obtain ⟨r, x, h1, h2⟩ := h
    exact ⟨r, x, hl _ _ h1, h2⟩
  | .map (some b), v', h => by
    simp only [VR] at h ⊢
    obtain ⟨r, x, h1, h2⟩ := h
    exact ⟨r, x, hl _ _ h1, h2⟩
  | .chan (some _), _, h => by simp only [VR] at h
  | .func fn f c, v', h => by
    simp only [VR] at h ⊢
    obtain ⟨f', c', h1, h2, h3⟩ := h
    exact ⟨f', c', h1, AR.mono hl f f' h2, AR.mono hl c c' h3⟩
  | .iface t v, v', h => by
    simp only [VR] at h ⊢
    obtain ⟨u, h1, h2⟩ := h
    exact ⟨u, h1, VR.mono hl v u h2⟩
  | .agg c, v', h => by
    simp only [VR] at h ⊢
    obtain ⟨c', h1, h2⟩ := h
    exact ⟨c', h1, AR.mono hl c c' h2⟩
  | .tuple c, v', h => by
    simp only [VR] at h ⊢
    obtain ⟨c', h1, h2⟩ := h
    exact ⟨c', h1, AR.mono hl c c' h2⟩
  | .bool b, v', h => by simpa only [VR] using h
  | .int k n, v', h => by simpa only [VR] using h
  | .float k n, v', h => by simpa only [VR] using h
  | .complex k n m, v', h => by simpa only [VR] using h
  | .string s, v', h => by simpa only [VR] using h
  | .pointer none, v', h => by simpa only [VR] using h
  | .slice none n c, v', h => by simpa only [VR] using h
  | .map none, v', h => by simpa only [VR] using h
  | .chan none, v', h => by simpa only [VR] using h
  | .nilFunc, v', h => by simpa only [VR] using h
  | .nilIface, v', h => by simpa only [VR] using h
theorem AR.mono {σ τ : Emb} (hl : Emb.le σ τ) : ∀ (a a' : Array Value), AR σ a a' → AR τ a a'
  | ⟨l⟩, a', h => by
    simp only [AR] at h ⊢
    exact LR.mono hl l a'.toList h
theorem LR.mono {σ τ : Emb} (hl : Emb.le σ τ) : ∀ (l l' : List Value), LR σ l l' → LR τ l l'
  | [], l', h => by simpa only [LR] using h
  | h :: t, l', hh => by
    simp only [LR] at hh ⊢
    obtain ⟨h', t', h1, h2, h3⟩ := hh
    exact ⟨h', t', h1, VR.mono hl h h' h2, LR.mono hl t t' h3⟩
end
end Go.Ev
