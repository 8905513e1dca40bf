import Derived.Test.YtkbffpadkdgbmaaGreatDoorEvC12
/- Every operation. -/
namespace Go.Ev
open Go Go.RowKit Go.Lib
set_option linter.unusedVariables false
set_option linter.unusedSimpArgs false
set_option linter.deprecated false

section
variable {P : Program} {base : Nat} {σ : Emb} {s t : St} {w : World} {a : Fr} {o : Oper} {v : Value}

theorem evOp_quiet {ih : IH} {k : K} (hq : loud o.op = false) (hs : s.Ok) (h : evOp o.op P ih o a s k = true) : ∃ v s', StepQ P base o a s v s' ∧ k v a s' = true := by
  generalize ho : o.op = op at h hq
  have hsel : (∀ cs b, op ≠ .select cs b) → ∀ cs b, o.op ≠ .select cs b := fun h => by rw [ho]; exact h
  cases op with
  | move x => exact move_of (.inl ho) h
  | assign x => exact move_of (.inr ho) h
  | pick c x y => exact pick_of ho h
  | alloc t => exact alloc_of ho h
  | box t x => exact box_of ho h
  | build t ps => exact build_of ho h
  | buildSlice t n ps => exact buildSlice_of ho h
  | insert _ _ _ _ => exact no h
  | load t x => exact loadOp_of hs ho h
  | store _ _ _ => exact no hq.symm
  | ready _ => exact no h
  | waits _ => exact no h
  | nilCheck x => exact nil_of ho h
  | binOp op t x y u => exact bin_of ho h
  | unOp _ _ _ => exact plain_of (hsel fun _ _ e => by cases e) h
  | convert t u x => exact convert_of hs ho h
  | sliceToArrayPointer _ _ => exact no h
  | makeInterface _ _ => exact plain_of (hsel fun _ _ e => by cases e) h
  | makeFunc f x y => exact makeFunc_of ho h
  | makeMap _ r => exact makeMap_of ho h
  | makeChan _ _ => exact no h
  | makeSlice t l c => exact makeSlice_of ho h
  | slice t x lo hi mx => exact slice_of hs ho h
  | fieldAddr t x f => exact fieldAddr_of ho h
  | field t x f => exact field_of ho h
  | indexAddr t x ix => exact indexAddr_of ho h
  | index t x ix => exact index_of ho h
  | lookup t x ix ok => exact lookup_of hs ho h
  | mapUpdate _ _ _ _ => exact no hq.symm
  | mapEntry _ _ _ => exact no h
  | entryStore _ _ _ _ => exact no h
  | range _ _ => exact no h
  | next _ _ => exact no h
  | entry _ => exact no h
  | typeAssert _ _ _ _ => exact plain_of (hsel fun _ _ e => by cases e) h
  | extract x i => exact extract_of ho h
  | call c =>
    have h : evCall P ih c o a s k = true := h
    have hq : (match c.callee with | .builtin b => loudB b | _ => true) = false := hq
    unfold evCall at h
    cases hc : c.callee with
    | value f => rw [hc] at hq; exact no hq.symm
    | invoke r m => rw [hc] at hq; exact no hq.symm
    | builtin b =>
      rw [hc] at h hq
      have h : evBuiltin b P o c a s k = true := h
      have hq : loudB b = false := hq
      cases b with
      | len =>
        obtain ⟨ty, h1, h2⟩ := type0_of (show type0 c _ = true from h)
        exact len_of hs ho hc h1 h2
      | cap => exact plain_of (hsel fun _ _ e => by cases e) h
      | max => exact plain_of (hsel fun _ _ e => by cases e) h
      | min => exact plain_of (hsel fun _ _ e => by cases e) h
      | unsafeSliceData => exact sliceData_of ho hc h
      | _ => exact no hq.symm
  | go _ => exact no h
  | defer _ => exact no hq.symm
  | panic _ => exact no h
  | send _ _ => exact no h
  | recv _ _ _ => exact no h
  | select _ _ => exact no h

theorem defer_of {G : List Nat} {k : K} {c : Call} (ho : o.op = .defer c) (h : evDefer P c a s k = true) : ∃ v a' s', StepL P base G o a s v a' s' ∧ k v a' s' = true := by
  unfold evDefer at h
  cases hc : c.callee with
  | value f =>
    rw [hc] at h
    obtain ⟨g, first, cap, hf, h1⟩ := funcK_of (show funcK (ex a f) _ = true from h)
    obtain ⟨g1, h2⟩ := cond_of' h1
    refine ⟨.tuple #[], ⟨a.n, a.tmps, (g, appL first (appL (exs a c.args.toList) cap)) :: a.defers⟩, s, ⟨rfl, rfl, St.Up.refl _, fun σ A w K Q hs _ hr hor hd hk => ?_⟩, h2⟩
    have h3 := hor f (by simp [ho, Op.operands, Call.operands, hc])
    rw [hf] at h3
    simp only [VR, AR] at h3
    obtain ⟨f', c', e1, e2, e3⟩ := h3
    have hargs : F2 (VR σ) (exs a c.args.toList) (c.args.map A.eval).toList := by
      unfold exs
      rw [mapL_eq, Array.toList_map]
      exact F2.same fun x hx => hor x (by simp only [ho, Op.operands, Call.operands, hc, Array.mem_append]; exact .inr (by simpa using hx))
    have hrun : (execOp A.eval o).run P w = .ok (.defer { target := .fn (.func g) c', args := f' ++ c.args.map A.eval }) w := by
      simp [execOp, ho, resolve, hc, e1, Deferred.ofValue]
    unfold Oper.wp
    rw [hrun]
    refine hk σ undef w ({ target := .fn (.func g) c', args := f' ++ c.args.map A.eval } :: A.defers) (Ext.refl σ s) hr (Below.refl _ _) tupV (F2.cons ?_ hd)
    refine ⟨c', _, rfl, ?_, g1⟩
    rw [appL_eq, appL_eq, ← List.append_assoc]
    simp only [Array.toList_append]
    exact ((LR_F2.1 e2).append hargs).append (LR_F2.1 e3)
  | invoke r m => rw [hc] at h; exact no h
  | builtin b => rw [hc] at h; exact no h

theorem StepW.any {G : List Nat} {k : K} (h : ∃ v s', StepW P base o a s v s' ∧ k v a s' = true) : ∃ v a' s', StepL P base G o a s v a' s' ∧ k v a' s' = true := by
  obtain ⟨v, s', h1, h2⟩ := h
  exact ⟨v, a, s', h1.l, h2⟩
theorem evOp_any {G : List Nat} {ih : IH} (hih : CallsOk P base G ih) {k : K} (hs : s.Ok) (h : evOp o.op P ih o a s k = true) : ∃ v a' s', StepL P base G o a s v a' s' ∧ k v a' s' = true := by
  cases hq : loud o.op
  · obtain ⟨v, s', h1, h2⟩ := evOp_quiet (base := base) hq hs h
    exact ⟨v, a, s', (h1.toW hs).l, h2⟩
  · generalize ho : o.op = op at h hq
    cases op with
    | store t x y => exact StepW.any (store_of ho h)
    | mapUpdate t x ix y => exact StepW.any (mapUpdate_of ho h)
    | panic _ => exact no h
    | defer c => exact defer_of ho h
    | call c =>
      have h : evCall P ih c o a s k = true := h
      unfold evCall at h
      cases hc : c.callee with
      | value f =>
        rw [hc] at h
        obtain ⟨v, s', h1, h2⟩ := call_of hih ho hc h hs
        exact ⟨v, a, s', h1, h2⟩
      | invoke r m => rw [hc] at h; exact no h
      | builtin b =>
        rw [hc] at h
        have h : evBuiltin b P o c a s k = true := h
        have plain : plainK P a s o k = true → ∃ v a' s', StepL P base G o a s v a' s' ∧ k v a' s' = true := fun h => by
          obtain ⟨v, s', h1, h2⟩ := plain_of (base := base) (by rw [ho]; intro _ _ e; cases e) h
          exact ⟨v, a, s', (h1.toW hs).l, h2⟩
        cases b with
        | append =>
          obtain ⟨ty, h1, h2⟩ := type0_of (show type0 c _ = true from h)
          exact StepW.any (append_of ho hc h1 h2)
        | clear =>
          obtain ⟨ty, h1, h2⟩ := type0_of (show type0 c _ = true from h)
          exact StepW.any (clear_of ho hc h1 h2)
        | copy =>
          obtain ⟨ty, h1, h2⟩ := type0_of (show type0 c _ = true from h)
          exact StepW.any (copy_of ho hc h1 h2)
        | unsafeString =>
          obtain ⟨ty, h1, h2⟩ := type0_of (show type0 c _ = true from h)
          exact StepW.any (unsafeString_of ho hc h1 h2)
        | len =>
          obtain ⟨ty, h1, h2⟩ := type0_of (show type0 c _ = true from h)
          obtain ⟨v, s', h3, h4⟩ := len_of (base := base) hs ho hc h1 h2
          exact ⟨v, a, s', (h3.toW hs).l, h4⟩
        | cap => exact plain h
        | max => exact plain h
        | min => exact plain h
        | unsafeSliceData =>
          obtain ⟨v, s', h3, h4⟩ := sliceData_of (base := base) ho hc h
          exact ⟨v, a, s', (h3.toW hs).l, h4⟩
        | _ => exact no h
    | _ => exact no hq
end
end Go.Ev
