import Derived.Test.YtkbffpadkdgbmaaGreatDoorEvC13
/- Frames; regions in their order. -/
namespace Go.Ev
open Go Go.RowKit Go.Lib
set_option linter.unusedVariables false
set_option linter.unusedSimpArgs false
set_option linter.deprecated false

noncomputable def Fr.at (a : Fr) (t : Nat) : Value := a.tmps.get (.tuple #[]) (path t)
/-- d's slot now holds v. -/
structure Fr.Put (a : Fr) (d : Option Nat) (v : Value) (b : Fr) : Prop where
  n : b.n = a.n
  defers : b.defers = a.defers
  lt : ∀ i, d = some i → i < a.n
  tm : ∀ t, b.at t = if d = some t then v else a.at t
theorem putT_of {a : Fr} {d : Option Nat} {v : Value} {k : Fr → Bool} (h : putT a d v k = true) : ∃ b, a.Put d v b ∧ k b = true := by
  cases d with
  | none => exact ⟨a, ⟨rfl, rfl, fun i e => (by cases e), fun t => by simp⟩, h⟩
  | some d =>
    obtain ⟨h1, h2⟩ := cond_of (show (bif Nat.blt d a.n then _ else false) = true from h)
    obtain ⟨t', h3, h4⟩ := T.set_of (n := d) h2
    refine ⟨⟨a.n, t', a.defers⟩, ⟨rfl, rfl, fun i e => ?_, fun t => ?_⟩, h3⟩
    · cases e; simpa [Nat.blt_eq] using h1
    · show T.get _ (path t) t' = _
      rw [h4]
      by_cases ht : t = d
      · subst ht; simp
      · rw [if_neg ht, if_neg (fun e => ht (by cases e; rfl))]; rfl

/-- A frame as it is told and as it is. -/
structure Rel (P : Program) (base : Nat) (G : List Nat) (σ : Emb) (a : Fr) (s : St) (A : Act) (w : World) : Prop where
  hr : HR P base σ s w
  gl : Gl G σ
  n : a.n ≤ A.tmps.size
  tm : ∀ t, VR σ (a.at t) (A.tmps.getD t undef)
  df : F2 (DR P σ) a.defers A.defers

section
variable {P : Program} {base : Nat} {G : List Nat} {σ τ : Emb} {s t : St} {w w' : World} {a b : Fr} {A : Act} {o : Oper} {v v' : Value}
theorem getD_put {A : Act} {d : Option Nat} {v' : Value} (h : ∀ i, d = some i → i < A.tmps.size) (t : Nat) : (A.put d v').tmps.getD t undef = if d = some t then v' else A.tmps.getD t undef := by
  cases d with
  | none => simp [Act.put]
  | some d =>
    have hd := h d rfl
    by_cases ht : d = t
    · subst ht; simp [Act.put, hd]
    · have : ¬ (some d = some t) := fun e => ht (by cases e; rfl)
      rw [if_neg this]
      simp [Act.put, Array.getElem?_setIfInBounds_ne ht]
theorem put_size {A : Act} {d : Option Nat} {v' : Value} : (A.put d v').tmps.size = A.tmps.size := by cases d <;> simp [Act.put]
theorem put_defers' {A : Act} {d : Option Nat} {v' : Value} : (A.put d v').defers = A.defers := by cases d <;> rfl
theorem Rel.put (h : Rel P base G σ a s A w) {d : Option Nat} (hp : a.Put d v b) (hv : VR σ v v') : Rel P base G σ b s (A.put d v') w where
  hr := h.hr
  gl := h.gl
  n := by rw [hp.n, put_size]; exact h.n
  tm := fun t => by
    rw [hp.tm, getD_put (fun i e => Nat.lt_of_lt_of_le (hp.lt i e) h.n)]
    by_cases ht : d = some t
    · rw [if_pos ht, if_pos ht]; exact hv
    · rw [if_neg ht, if_neg ht]; exact h.tm t
  df := by rw [hp.defers, put_defers']; exact h.df
theorem memN_of {i : Nat} : ∀ {l : List Nat}, memN i l = true → i ∈ l
  | [], h => no h
  | j :: l, h => by
    unfold memN at h
    cases hb : Nat.beq i j
    · rw [hb] at h; exact List.mem_cons_of_mem _ (memN_of h)
    · have := beqN_true hb; subst this; exact List.mem_cons_self
theorem memN_mem {i : Nat} : ∀ {l : List Nat}, i ∈ l → memN i l = true
  | j :: l, h => by
    unfold memN
    cases hb : Nat.beq i j
    · cases h with
      | head => rw [beqN] at hb; simp at hb
      | tail _ h => exact memN_mem h
    · rfl
/-- Operands of an operation whose constants are flat. -/
theorem operand_rel {x : Operand} (hx : constOk G x = true) (hg : Gl G σ) (ht : ∀ t, x = .tmp t → VR σ (a.at t) (A.tmps.getD t undef)) : VR σ (ex a x) (A.eval x) := by
  cases x with
  | tmp t => exact ht t rfl
  | const v => exact flat_refl v hx
  | global g =>
    obtain ⟨y, hy⟩ := hg g (memN_of hx)
    exact vptr_VR hy 0
  | func f =>
    show VR σ (.func (.func f) #[] #[]) (.func (.func f) #[] #[])
    simp only [VR, AR, LR]
    exact ⟨#[], #[], rfl, rfl, rfl⟩
theorem operOk_of {ops : List Oper} (h : operOk G ops o = true) : guardOk ops o = true ∧ ∀ x ∈ o.op.operands, constOk G x = true := by
  unfold operOk at h
  simp only [Bool.and_eq_true, List.all_eq_true] at h
  exact ⟨h.1, fun x hx => h.2 x (by simpa using hx)⟩
theorem Rel.ops (h : Rel P base G σ a s A w) (hc : ∀ x ∈ o.op.operands, constOk G x = true) : OpsRel σ a A.eval o.op := fun x hx => operand_rel (hc x hx) h.gl (fun t _ => h.tm t)

/-! Guards. -/
theorem guardK_of {g : Option (Nat × Bool)} {yes no' : Unit → Bool} (h : guardK a g yes no' = true) :
    (((g = none) ∨ ∃ d b, g = some (d, b) ∧ a.at d = .bool b) ∧ yes () = true) ∨ ((∃ d b, g = some (d, b) ∧ a.at d = .bool (!b)) ∧ no' () = true) := by
  cases g with
  | none => exact .inl ⟨.inl rfl, h⟩
  | some g =>
    obtain ⟨d, want⟩ := g
    obtain ⟨b, hb, h1⟩ := boolK_of (show boolK _ _ = true from h)
    cases b <;> cases want
    · exact .inl ⟨.inr ⟨d, false, rfl, hb⟩, h1⟩
    · exact .inr ⟨⟨d, true, rfl, hb⟩, h1⟩
    · exact .inr ⟨⟨d, false, rfl, hb⟩, h1⟩
    · exact .inl ⟨.inr ⟨d, true, rfl, hb⟩, h1⟩
theorem yielded_at {ops : Array Oper} {j d : Nat} {oj : Oper} {b : Bool} (hj : ops[j]? = some oj) (hd : oj.dst = some d) (hv : A.tmps.getD d undef = .bool b) : yielded ops A.tmps j = some b := by
  have : A.tmps[d]? = some (.bool b) := by
    cases h : A.tmps[d]? with
    | none => simp [h, undef] at hv
    | some u => simp [h] at hv; rw [hv]
  simp [yielded, hj, hd, this]
theorem guardTmp_of {ops : Array Oper} (hok : guardOk ops.toList o = true) : (o.guard = none ∧ guardTmp ops.toList o.guard = none) ∨
    ∃ j want oj d, o.guard = some (j, want) ∧ ops[j]? = some oj ∧ oj.dst = some d ∧ guardTmp ops.toList o.guard = some (d, want) := by
  unfold guardOk at hok
  cases hg : o.guard with
  | none => exact .inl ⟨rfl, rfl⟩
  | some g =>
    obtain ⟨j, want⟩ := g
    rw [hg] at hok
    unfold guardTmp at hok
    simp only at hok
    cases hj : ops.toList[j]? with
    | none => rw [hj] at hok; cases hok
    | some oj =>
      rw [hj] at hok
      cases hd : oj.dst with
      | none => simp only [hd] at hok; cases hok
      | some d => exact .inr ⟨j, want, oj, d, rfl, by rw [← Array.getElem?_toList]; exact hj, hd, by simp [guardTmp, hj, hd]⟩
/-- The guard lets the operation in, or not. -/
theorem wanted_yes {ops : Array Oper} (hok : guardOk ops.toList o = true) (h : guardTmp ops.toList o.guard = none ∨ ∃ d b, guardTmp ops.toList o.guard = some (d, b) ∧ A.tmps.getD d undef = .bool b) : Region.wanted o (yielded ops A.tmps) = true := by
  rcases guardTmp_of hok with ⟨h1, _⟩ | ⟨j, want, oj, d, h1, h2, h3, h4⟩
  · simp [Region.wanted, h1]
  · rcases h with h | ⟨d', b, h5, h6⟩
    · rw [h4] at h; cases h
    · rw [h4] at h5; cases h5
      simp [Region.wanted, h1, yielded_at h2 h3 h6]
theorem wanted_no {ops : Array Oper} (hok : guardOk ops.toList o = true) (h : ∃ d b, guardTmp ops.toList o.guard = some (d, b) ∧ A.tmps.getD d undef = .bool (!b)) : Region.wanted o (yielded ops A.tmps) = false := by
  rcases guardTmp_of hok with ⟨h1, h2⟩ | ⟨j, want, oj, d, h1, h2, h3, h4⟩
  · obtain ⟨d, b, h3, _⟩ := h
    rw [h2] at h3; cases h3
  · obtain ⟨d', b, h5, h6⟩ := h
    rw [h4] at h5; cases h5
    simp [Region.wanted, h1, yielded_at h2 h3 h6]

theorem Rel.bool (h : Rel P base G σ a s A w) {d : Nat} {c : Bool} (hd : a.at d = .bool c) : A.tmps.getD d undef = .bool c := by
  have := h.tm d
  rw [hd] at this
  simpa only [VR] using this

/-- In order. -/
theorem seq_of {ih : IH} (hih : CallsOk P base G ih) {ops : Array Oper} (hok : ∀ o ∈ ops.toList, operOk G ops.toList o = true) : ∀ (l : List Oper) (i : Nat) (a : Fr) (s : St) (k : KE), ops.toList.drop i = l → s.Ok →
    evOps P ih (l.map fun o => ⟨o, guardTmp ops.toList o.guard, []⟩) a s k = true →
    ∃ a' s', k .normal a' s' = true ∧ (s'.Ok ∧ s.Up s') ∧ ∀ σ A w Q, Rel P base G σ a s A w → (∀ τ A' w', Ext σ s τ s' → Rel P base G τ a' s' A' w' → Below base w w' → Q .normal A' w') → wpOps P ops Q (List.range' i l.length) A w
  | [], i, a, s, k, _, hs, h => ⟨a, s, h, ⟨hs, St.Up.refl s⟩, fun σ A w Q hr hq => hq σ A w (Ext.refl σ s) hr (Below.refl _ _)⟩
  | o :: l, i, a, s, k, hl, hs, h => by
    have hoi : ops[i]? = some o := by
      rw [← Array.getElem?_toList]
      have := congrArg (·[0]?) hl
      simpa [List.getElem?_drop] using this
    have hmem : o ∈ ops.toList := by rw [← Array.getElem?_toList] at hoi; exact List.mem_of_getElem? hoi
    obtain ⟨hgok, hcok⟩ := operOk_of (hok o hmem)
    have hl' : ops.toList.drop (i + 1) = l := by
      have : ops.toList.drop (i + 1) = (ops.toList.drop i).drop 1 := by rw [List.drop_drop]
      rw [this, hl]; rfl
    have h : evPO P ih ⟨o, guardTmp ops.toList o.guard, []⟩ a s (fun a s => evOps P ih (l.map fun o => ⟨o, guardTmp ops.toList o.guard, []⟩) a s k) = true := h
    unfold evPO at h
    have hstep : ∀ {A w Q}, wpOps P ops Q (List.range' i (o :: l).length) A w ↔ (if Region.wanted o (yielded ops A.tmps) then o.wp P A w (wpOps P ops Q (List.range' (i + 1) l.length)) Q ∨ (o.asks P A w ∧ LetsOut Q) else wpOps P ops Q (List.range' (i + 1) l.length) (A.put o.dst undef) w) := by
      intro A w Q
      show wpOps P ops Q (i :: List.range' (i + 1) l.length) A w ↔ _
      simp only [wpOps, hoi]
    rcases guardK_of h with ⟨hg, h1⟩ | ⟨hg, h1⟩
    · obtain ⟨v, a₁, s₁, ⟨e1, e2, hok1, hstepL⟩, h2⟩ := evOp_any hih hs h1
      obtain ⟨a₂, hput, h3⟩ := putT_of h2
      obtain ⟨a', s', h4, hs', h5⟩ := seq_of hih hok l (i + 1) a₂ s₁ k hl' (hok1.2 hs) h3
      refine ⟨a', s', h4, ⟨hs'.1, hok1.trans hs'.2⟩, fun σ A w Q hr hq => ?_⟩
      rw [hstep]
      have hw : Region.wanted o (yielded ops A.tmps) = true := wanted_yes hgok (by
        rcases hg with hg | ⟨d, b, hg, hb⟩
        · exact .inl hg
        · exact .inr ⟨d, b, hg, hr.bool hb⟩)
      rw [if_pos hw]
      refine .inl (hstepL σ A w _ _ hs hr.gl hr.hr (hr.ops hcok) hr.df fun τ v' w' D x1 x2 x3 x4 x5 => ?_)
      have hr₁ : Rel P base G τ a₁ s₁ { A with defers := D } w' := ⟨x2, fun g hg => by obtain ⟨y, hy⟩ := hr.gl g hg; exact ⟨y, x1.le _ _ hy⟩, by rw [e1]; exact hr.n, fun t => by
        have := VR.mono x1.le _ _ (hr.tm t)
        simp only [Fr.at] at this ⊢
        rw [e2]; exact this, x5⟩
      refine h5 τ _ w' Q (hr₁.put hput x4) fun υ A' w'' y1 y2 y3 => hq υ A' w'' (x1.trans y1) y2 (x3.trans y3)
    · obtain ⟨a₂, hput, h3⟩ := putT_of h1
      obtain ⟨a', s', h4, hs', h5⟩ := seq_of hih hok l (i + 1) a₂ s k hl' hs h3
      refine ⟨a', s', h4, hs', fun σ A w Q hr hq => ?_⟩
      rw [hstep]
      obtain ⟨d, b, hg, hb⟩ := hg
      have hw : Region.wanted o (yielded ops A.tmps) = false := wanted_no hgok ⟨d, b, hg, hr.bool hb⟩
      rw [hw, if_neg (by decide)]
      exact h5 σ _ w Q (hr.put hput tupV) hq
end
end Go.Ev
