import Derived.Test.YtkbffpadkdgbmaaGreatDoorEvE1
import Derived.Recover
/- Code, calls, deferred calls: the evaluator is sound. -/
namespace Go.Ev
open Go Go.RowKit Go.Lib
set_option linter.unusedVariables false
set_option linter.unusedSimpArgs false
set_option linter.deprecated false

/-- How a piece of code ends. -/
def ExR : Ex → Exit → Prop
  | .normal, .normal => True
  | .exit i, .exit j => i = j
  | .ret, .ret => True
  | _, _ => False

section
variable (P : Program) (base : Nat) (G : List Nat)
/-- The round of a loop, and what follows. -/
def wpIn (c : Code) (Q : Exit → Act → World → Prop) (a : Act) (w : World) : Prop :=
  ∀ (b : Frame) (k : List Item) (cs : List Frame), ∃ e a' w', Q e a' w' ∧ Arrives P (lone (b.at a (.code c :: .inLoop c :: k)) cs w) b k cs e a' w'
def gwp (c : Code) (Q : Exit → Act → World → Prop) (a : Act) (w : World) : Prop :=
  match c with
  | .loop d => wpIn P d Q a w
  | c => c.wp P Q a w
def CodeStep (c : Code) (a : Fr) (s : St) (e : Ex) (a' : Fr) (s' : St) : Prop :=
  s'.Ok ∧ s.Up s' ∧ ∀ σ A w Q, Rel P base G σ a s A w → (∀ X τ A' w', ExR e X → Ext σ s τ s' → Rel P base G τ a' s' A' w' → Below base w w' → Q X A' w') → gwp P c Q A w
def CodesOk (ih : IH) : Prop := ∀ c a s k, s.Ok → ih (.code c) a s k = true → ∃ e a' s', k e a' s' = true ∧ (∀ v, e ≠ .val v) ∧ CodeStep P base G c a s e a' s'
end

section
variable {P : Program} {base : Nat} {G : List Nat} {σ τ : Emb} {s t : St} {w w' : World} {a b : Fr} {A : Act} {o : Oper} {v v' : Value} {ih : IH} {c : Code}
theorem gwp_wp {Q : Exit → Act → World → Prop} (h : gwp P c Q A w) : c.wp P Q A w := by
  cases c with
  | loop d =>
    intro b k cs
    obtain ⟨e, a', w', h1, h2⟩ := h b k cs
    exact ⟨e, a', w', h1, .of_steps (.one step_loop) h2⟩
  | _ => exact h
theorem wp_gwp {Q : Exit → Act → World → Prop} (hc : ∀ d, c ≠ .loop d) (h : c.wp P Q A w) : gwp P c Q A w := by
  cases c with
  | loop d => exact absurd rfl (hc d)
  | _ => exact h
theorem wpIn_round {d : Code} {Q : Exit → Act → World → Prop} (h : d.wp P (Exit.then (wpIn P d Q) Q) A w) : wpIn P d Q A w := by
  intro b k cs
  obtain ⟨e, a₁, w₁, hq, harr⟩ := h b (.inLoop d :: k) cs
  cases e with
  | normal =>
    obtain ⟨e₂, a₂, w₂, hq₂, harr₂⟩ := hq b k cs
    exact ⟨e₂, a₂, w₂, hq₂, .of_steps (Steps.trans harr (.one step_inLoop)) harr₂⟩
  | exit id => exact ⟨_, a₁, w₁, hq, .pass (x := .inLoop d) rfl (fun _ _ => .inl (by simp)) harr⟩
  | goto l => exact ⟨_, a₁, w₁, hq, .pass (x := .inLoop d) rfl (fun _ _ => .inl (by simp)) harr⟩
  | ret => exact ⟨_, a₁, w₁, hq, .pass (x := .inLoop d) rfl (fun _ _ => .inl (by simp)) harr⟩
  | panic ch => exact ⟨_, a₁, w₁, hq, .pass (x := .inLoop d) rfl (fun _ _ => .inl (by simp)) harr⟩
  | outgrown => exact ⟨_, a₁, w₁, hq, .pass (x := .inLoop d) rfl (fun _ _ => .inl (by simp)) harr⟩

theorem cond_eval {x : Operand} {q : Bool} (hr : Rel P base G σ a s A w) (h : ex a x = .bool q) : A.eval x = .bool q := by
  cases x with
  | tmp t => exact hr.bool h
  | const v => exact h
  | global g => cases h
  | func f => cases h
theorem thenK_of {e : Ex} {n : Fr → St → Bool} {k : KE} (he : ∀ v, e ≠ .val v) (h : thenK e n k a s = true) : (e = .normal ∧ n a s = true) ∨ (e ≠ .normal ∧ k e a s = true) := by
  cases e with
  | normal => exact .inl ⟨rfl, h⟩
  | exit i => exact .inr ⟨fun e => (by cases e), h⟩
  | ret => exact .inr ⟨fun e => (by cases e), h⟩
  | val v => exact absurd rfl (he v)
theorem code_of (hm : P.follows .mixedOrders = true) (hcalls : CallsOk P base G ih) (hcodes : CodesOk P base G ih) {k : KE} (hs : s.Ok) (h : evCode c G P ih a s k = true) :
    ∃ e a' s', k e a' s' = true ∧ (∀ v, e ≠ .val v) ∧ CodeStep P base G c a s e a' s' := by
  cases c with
  | skip => exact ⟨.normal, a, s, h, fun v e => (by cases e), hs, St.Up.refl s, fun σ A w Q hr hq => wp_skip (hq _ σ A w trivial (Ext.refl σ s) hr (Below.refl _ _))⟩
  | region id ops draw =>
    obtain ⟨a', s', h1, h2, h3, h4⟩ := region_of (id := id) hm hcalls hs h
    exact ⟨.normal, a', s', h1, fun v e => (by cases e), h2, h3, fun σ A w Q hr hq => h4 σ A w Q hr fun τ A' w' x1 x2 x3 => hq _ τ A' w' trivial x1 x2 x3⟩
  | seq x y =>
    obtain ⟨e1, a1, s1, h1, h2, h3, h4, h5⟩ := hcodes _ _ _ _ hs h
    rcases thenK_of h2 h1 with ⟨rfl, h6⟩ | ⟨h6, h7⟩
    · obtain ⟨e2, a2, s2, h7, h8, h9, h10, h11⟩ := hcodes _ _ _ _ h3 h6
      refine ⟨e2, a2, s2, h7, h8, h9, h4.trans h10, fun σ A w Q hr hq => wp_seq (gwp_wp (h5 σ A w _ hr fun X τ A' w' x1 x2 x3 x4 => ?_))⟩
      cases X <;> first | exact x1.elim | skip
      exact gwp_wp (h11 τ A' w' Q x3 fun X υ A'' w'' y1 y2 y3 y4 => hq X υ A'' w'' y1 (x2.trans y2) y3 (x4.trans y4))
    · refine ⟨e1, a1, s1, h7, h2, h3, h4, fun σ A w Q hr hq => wp_seq (gwp_wp (h5 σ A w _ hr fun X τ A' w' x1 x2 x3 x4 => ?_))⟩
      have := hq X τ A' w' x1 x2 x3 x4
      cases X <;> first
        | exact this
        | (cases e1 <;> first | exact absurd rfl h6 | exact x1.elim)
  | cond q x y =>
    obtain ⟨c, hc, h1⟩ := boolK_of h
    cases c
    · obtain ⟨e1, a1, s1, h2, h3, h4, h5, h6⟩ := hcodes _ _ _ _ hs h1
      exact ⟨e1, a1, s1, h2, h3, h4, h5, fun σ A w Q hr hq => wp_cond_false (cond_eval hr hc) (gwp_wp (h6 σ A w Q hr hq))⟩
    · obtain ⟨e1, a1, s1, h2, h3, h4, h5, h6⟩ := hcodes _ _ _ _ hs h1
      exact ⟨e1, a1, s1, h2, h3, h4, h5, fun σ A w Q hr hq => wp_cond_true (cond_eval hr hc) (gwp_wp (h6 σ A w Q hr hq))⟩
  | block id d =>
    obtain ⟨e1, a1, s1, h1, h2, h3, h4, h5⟩ := hcodes _ _ _ _ hs h
    have key : ∀ e2, k e2 a1 s1 = true → (∀ v, e2 ≠ .val v) → (∀ (Q : Exit → Act → World → Prop) X A' w', ExR e1 X → (∀ Y, ExR e2 Y → Q Y A' w') → Exit.inBlock id Q X A' w') →
        ∃ e a' s', k e a' s' = true ∧ (∀ v, e ≠ .val v) ∧ CodeStep P base G (.block id d) a s e a' s' := fun e2 h6 h7 h8 =>
      ⟨e2, a1, s1, h6, h7, h3, h4, fun σ A w Q hr hq => wp_block (gwp_wp (h5 σ A w _ hr fun X τ A' w' x1 x2 x3 x4 => h8 Q X A' w' x1 fun Y hY => hq Y τ A' w' hY x2 x3 x4))⟩
    cases e1 with
    | normal =>
      refine key .normal h1 (fun v e => by cases e) fun Q X A' w' x1 x2 => ?_
      cases X <;> first | exact x1.elim | exact x2 _ trivial
    | exit i =>
      have hb1 : (bif Nat.beq i id then k .normal a1 s1 else k (.exit i) a1 s1) = true := h1
      cases hi : Nat.beq i id
      · rw [hi] at hb1
        have hne : i ≠ id := fun e => by subst e; rw [beqN] at hi; simp at hi
        refine key (.exit i) hb1 (fun v e => by cases e) fun Q X A' w' x1 x2 => ?_
        cases X <;> first | exact x1.elim | skip
        have x1 : i = _ := x1
        subst x1
        simp only [Exit.inBlock, if_neg hne]
        exact x2 _ rfl
      · rw [hi] at hb1
        have := beqN_true hi; subst this
        refine key .normal hb1 (fun v e => by cases e) fun Q X A' w' x1 x2 => ?_
        cases X <;> first | exact x1.elim | skip
        have x1 : i = _ := x1
        subst x1
        simp only [Exit.inBlock, if_true]
        exact x2 _ trivial
    | ret =>
      refine key .ret h1 (fun v e => by cases e) fun Q X A' w' x1 x2 => ?_
      cases X <;> first | exact x1.elim | exact x2 _ trivial
    | val v => exact absurd rfl (h2 v)
  | loop d =>
    obtain ⟨e1, a1, s1, h1, h2, h3, h4, h5⟩ := hcodes _ _ _ _ hs h
    rcases thenK_of h2 h1 with ⟨rfl, h6⟩ | ⟨h6, h7⟩
    · obtain ⟨e2, a2, s2, h7, h8, h9, h10, h11⟩ := hcodes _ _ _ _ h3 h6
      refine ⟨e2, a2, s2, h7, h8, h9, h4.trans h10, fun σ A w Q hr hq => wpIn_round (gwp_wp (h5 σ A w _ hr fun X τ A' w' x1 x2 x3 x4 => ?_))⟩
      cases X <;> first | exact x1.elim | skip
      exact h11 τ A' w' Q x3 fun X υ A'' w'' y1 y2 y3 y4 => hq X υ A'' w'' y1 (x2.trans y2) y3 (x4.trans y4)
    · refine ⟨e1, a1, s1, h7, h2, h3, h4, fun σ A w Q hr hq => wpIn_round (gwp_wp (h5 σ A w _ hr fun X τ A' w' x1 x2 x3 x4 => ?_))⟩
      have := hq X τ A' w' x1 x2 x3 x4
      cases X <;> first
        | exact this
        | (cases e1 <;> first | exact absurd rfl h6 | exact x1.elim)
  | rangeFunc _ _ _ _ => exact no h
  | exit i => exact ⟨.exit i, a, s, h, fun v e => (by cases e), hs, St.Up.refl s, fun σ A w Q hr hq => wp_exit (hq _ σ A w rfl (Ext.refl σ s) hr (Below.refl _ _))⟩
  | scope _ => exact no h
  | label _ => exact ⟨.normal, a, s, h, fun v e => (by cases e), hs, St.Up.refl s, fun σ A w Q hr hq => wp_label (hq _ σ A w trivial (Ext.refl σ s) hr (Below.refl _ _))⟩
  | goto _ => exact no h
  | ret => exact ⟨.ret, a, s, h, fun v e => (by cases e), hs, St.Up.refl s, fun σ A w Q hr hq => wp_ret (hq _ σ A w trivial (Ext.refl σ s) hr (Below.refl _ _))⟩
  | refuse _ => exact no h

/-! Results. -/
theorem resultK_of {r : ResultVar} {k : Value → Bool} (hs : s.Ok) (h : resultK P a s r k = true) : ∃ v, k v = true ∧ ∀ (σ : Emb) (A : Act) (w : World), HR P base σ s w → (∀ t, VR σ (a.at t) (A.tmps.getD t undef)) →
    ∃ v', VR σ v v' ∧ (match r with | .tmp t => pure (A.tmps.getD t undef) | .cell c t => (do loadVar t (← asAddr (A.tmps.getD c undef))) : Sem Value).run P w = .ok v' w := by
  cases r with
  | tmp t => exact ⟨_, h, fun σ A w hr ht => ⟨_, ht t, rfl⟩⟩
  | cell c t =>
    obtain ⟨v, h1, h2⟩ := load_of (base := base) (k := fun v _ _ => k v) hs h
    refine ⟨v, h1, fun σ A w hr ht => ?_⟩
    obtain ⟨r, f, v', h3, h4, h5⟩ := h2 σ s w _ hr (fun _ _ => rfl) (ht c)
    refine ⟨v', h5, ?_⟩
    simp [h3, asAddr, h4]
theorem resultsK_of : ∀ {rs : List ResultVar} {k : List Value → Bool}, s.Ok → resultsK P a s rs k = true → ∃ vs, k vs = true ∧ ∀ (σ : Emb) (A : Act) (w : World), HR P base σ s w → (∀ t, VR σ (a.at t) (A.tmps.getD t undef)) →
    ∃ vs', F2 (VR σ) vs vs' ∧ (rs.mapM fun | .tmp t => pure (A.tmps.getD t undef) | .cell c t => (do loadVar t (← asAddr (A.tmps.getD c undef))) : Sem (List Value)).run P w = .ok vs' w
  | [], k, _, h => ⟨[], h, fun σ A w _ _ => ⟨[], rfl, by simp⟩⟩
  | r :: rs, k, hs, h => by
    obtain ⟨v, h1, h2⟩ := resultK_of (base := base) hs (show resultK P a s r (fun v => resultsK P a s rs fun vs => k (v :: vs)) = true from h)
    obtain ⟨vs, h3, h4⟩ := resultsK_of hs h1
    refine ⟨v :: vs, h3, fun σ A w hr ht => ?_⟩
    obtain ⟨v', e1, e2⟩ := h2 σ A w hr ht
    obtain ⟨vs', e3, e4⟩ := h4 σ A w hr ht
    refine ⟨v' :: vs', F2.cons e1 e3, ?_⟩
    rw [List.mapM_cons]
    cases r with
    | tmp t =>
      have e2 : A.tmps.getD t undef = v' := by simpa using e2
      simp only [Sem.run_bind, Sem.run_pure, Result.andThen_ok, e4, e2]
    | cell c t =>
      have e2 : (asAddr (A.tmps.getD c undef) >>= fun x => loadVar t x).run P w = .ok v' w := e2
      simp only [Sem.run_bind] at e2 ⊢
      rw [e2]
      simp only [Result.andThen_ok, e4, Sem.run_pure]
theorem results_of {fn : Func} {k : List Value → Bool} (hs : s.Ok) (h : resultsK P a s fn.results.toList k = true) : ∃ vs, k vs = true ∧ ∀ (σ : Emb) (A : Act) (w : World), HR P base σ s w → (∀ t, VR σ (a.at t) (A.tmps.getD t undef)) → ∃ v', VR σ (oneOr vs) v' ∧ (results fn A.tmps).run P w = .ok v' w := by
  obtain ⟨vs, h1, h2⟩ := resultsK_of (base := base) hs h
  refine ⟨vs, h1, fun σ A w hr ht => ?_⟩
  obtain ⟨vs', e1, e2⟩ := h2 σ A w hr ht
  refine ⟨if h : vs'.toArray.size = 1 then vs'.toArray[0] else .tuple vs'.toArray, ?_, ?_⟩
  · cases vs with
    | nil =>
      have : vs' = [] := e1
      subst this
      show VR σ (.tuple #[]) (.tuple #[])
      exact flat_refl _ rfl
    | cons x rest =>
      obtain ⟨x', rest', rfl, q1, q2⟩ := e1
      cases rest with
      | nil =>
        have : rest' = [] := q2
        subst this
        exact q1
      | cons y rest =>
        obtain ⟨y', rest'', rfl, q3, q4⟩ := q2
        have : ¬ ((x' :: y' :: rest'').toArray.size = 1) := by simp
        rw [dif_neg this]
        show VR σ (.tuple ⟨x :: y :: rest⟩) _
        simp only [VR, AR]
        exact ⟨_, rfl, LR_F2.2 (F2.cons q1 (F2.cons q3 q4))⟩
  · unfold results
    rw [Sem.run_bind, Array.mapM_eq_mapM_toList, Sem.run_map]
    have e2' := e2
    erw [e2']
    simp only [Result.andThen_ok, Sem.run_pure]
end
end Go.Ev
