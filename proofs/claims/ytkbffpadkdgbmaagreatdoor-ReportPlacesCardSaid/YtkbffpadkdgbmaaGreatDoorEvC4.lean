import Derived.Test.YtkbffpadkdgbmaaGreatDoorEvC3
/- Operations: what is read; slices; strings; numbers. -/
namespace Go.Ev
open Go Go.RowKit
set_option linter.unusedVariables false
set_option linter.unusedSimpArgs false
set_option linter.deprecated false

section
variable {P : Program} {base : Nat} {σ : Emb} {s t : St} {w : World} {a : Fr} {o : Oper} {v : Value}

theorem run_load1 {r f : Nat} {u : Value} (h : w.cell? ⟨r, f, none⟩ = some u) : (load ⟨r, f, none⟩).run P w = .ok u w := by rw [run_load, h]

/-- A variable is read. -/
theorem load_run {ty : TypeId} {d : TypeDesc} (hd : P.underlying ty = some d) (hr : HR P base σ t w) {b r x f : Nat} {c : List Value} {e : TypeId} {q : Kd} (hσ : σ b = some (r, x)) (hb : t.blk b = .cells c e q) :
    (isAgg d = true → ∀ i, P.info? ty = some i → i.size ≤ (c.drop f).length → (∀ v ∈ (c.drop f).take i.size, cellOk v = true) → ∃ v', (loadVar ty ⟨r, f, none⟩).run P w = .ok v' w ∧ VR σ (.agg ⟨(c.drop f).take i.size⟩) v') ∧
    (isAgg d = false → ∀ v, 1 ≤ (c.drop f).length → (∀ v ∈ (c.drop f).take 1, cellOk v = true) → (c.drop f).take 1 = [v] → ∃ v', (loadVar ty ⟨r, f, none⟩).run P w = .ok v' w ∧ VR σ v v') := by
  constructor
  · intro hg i hi hn hok
    obtain ⟨l', h1, h2, h3⟩ := hr.vals hσ hb hn hok
    refine ⟨.agg l'.toArray, ?_, ?_⟩
    · simp [loadVar, run_isAgg hd, hg, run_sizeOf hi, run_cells h2 h3]
    · simp only [VR, AR]; exact ⟨_, rfl, LR_F2.2 h1⟩
  · intro hg v hn hok hv
    obtain ⟨l', h1, h2, h3⟩ := hr.vals hσ hb hn hok
    rw [hv] at h1
    obtain ⟨v', t', rfl, h4, h5⟩ := h1
    have hc := h3 0 v' (by simp)
    simp only [Nat.add_zero] at hc
    refine ⟨v', ?_, h4⟩
    simp [loadVar, run_isAgg hd, hg, hc]
theorem load_of {k : K} {ty : TypeId} {x : Operand} (hs : s.Ok) (h : evLoad P ty x a s k = true) :
    ∃ v, k v a s = true ∧ ∀ σ t w u, HR P base σ t w → (∀ b, b < s.next → t.blk b = s.blk b) → VR σ (ex a x) u → ∃ r f v', u = .pointer (some ⟨r, f, none⟩) ∧ (loadVar ty ⟨r, f, none⟩).run P w = .ok v' w ∧ VR σ v v' := by
  obtain ⟨p, hp, h1⟩ := ptrK_of h
  obtain ⟨p, rfl, h2⟩ := optK_of h1
  obtain ⟨d, hd, h3⟩ := underK_of h2
  cases hg : isAgg d
  · rw [hg] at h3
    obtain ⟨b, f, c, e, q, rfl, hb, hn, hok, h4⟩ := readK_of (show readK s p 1 _ = true from h3)
    have hcons : ∃ v, (c.drop f).take 1 = [v] := by
      cases hc : c.drop f with
      | nil => rw [hc] at hn; simp at hn
      | cons v l => exact ⟨v, by simp⟩
    obtain ⟨v, hv⟩ := hcons
    rw [hv] at h4
    refine ⟨v, h4, fun σ t w u hr hag hu => ?_⟩
    rw [hp] at hu; simp only [VR] at hu
    obtain ⟨r, y, hσ, _, hu⟩ := hu
    have hb' : t.blk b = .cells c e q := by rw [hag b (hs.lt (by rw [hb]; exact fun e => by cases e))]; exact hb
    obtain ⟨v', h5, h6⟩ := (load_run hd hr hσ hb').2 hg v hn hok hv
    exact ⟨r, f, v', hu, h5, h6⟩
  · rw [hg] at h3
    rw [cond_true] at h3
    obtain ⟨i, hi, h3'⟩ := sizeK_of h3
    obtain ⟨b, f, c, e, q, rfl, hb, hn, hok, h4⟩ := readK_of h3'
    refine ⟨_, h4, fun σ t w u hr hag hu => ?_⟩
    rw [hp] at hu; simp only [VR] at hu
    obtain ⟨r, y, hσ, _, hu⟩ := hu
    have hb' : t.blk b = .cells c e q := by rw [hag b (hs.lt (by rw [hb]; exact fun e => by cases e))]; exact hb
    obtain ⟨v', h5, h6⟩ := (load_run hd hr hσ hb').1 hg i hi hn hok
    exact ⟨r, f, v', hu, h5, h6⟩
theorem loadOp_of {k : K} {ty : TypeId} {x : Operand} (hs : s.Ok) (ho : o.op = .load ty x) (h : evLoad P ty x a s k = true) : ∃ v s', StepQ P base o a s v s' ∧ k v a s' = true := by
  obtain ⟨v, hk, h1⟩ := load_of (base := base) hs h
  refine ⟨v, s, .inr ⟨by simp [ho, reads], rfl, fun σ t ρ w hr hor hag _ => ?_⟩, hk⟩
  obtain ⟨r, f, v', hu, h2, h3⟩ := h1 σ t w (ρ x) hr hag (hor x (by simp [ho, Op.operands]))
  refine ⟨v', w, .inl ?_, h3, hr, Below.refl _ _⟩
  simp [execOp, ho, hu, Instr.loadAt, Instr.sureAddr, h2]

theorem field_of {k : K} {ty : TypeId} {x : Operand} {f : Nat} (ho : o.op = .field ty x f) (h : evField P ty x f a s k = true) : ∃ v s', StepQ P base o a s v s' ∧ k v a s' = true := by
  obtain ⟨d, hd, h1⟩ := underK_of h
  obtain ⟨fs, rfl, h2⟩ := structTK_of h1
  obtain ⟨fd, hf, h3⟩ := nthK_of h2
  obtain ⟨c, hx, h4⟩ := aggK_of h3
  obtain ⟨d', hd', h5⟩ := underK_of h4
  have hf' : (⟨fs⟩ : Array Field)[f]? = some fd := by rw [← Array.getElem?_toList]; exact hf
  cases hg : isAgg d'
  · rw [hg] at h5
    obtain ⟨v, hv, h6⟩ := nthK_of (show nthK _ _ _ = true from h5)
    refine ⟨v, s, StepP.q fun σ t ρ w _ hr => ?_, h6⟩
    have hx' := hr x (by simp [ho, Op.operands])
    rw [hx] at hx'; simp only [VR, AR] at hx'
    obtain ⟨c', hx', hl⟩ := hx'
    obtain ⟨v', hv', hr'⟩ := (LR_F2.1 hl).get _ hv
    have hv'' : c'[fd.offset]? = some v' := by rw [← Array.getElem?_toList]; exact hv'
    refine ⟨v', .inl ?_, hr'⟩
    simp [execOp, ho, hx', Instr.field, run_underlying hd, hf', asAgg, part, run_isAgg hd', hg, hv'']
  · rw [hg] at h5
    rw [cond_true] at h5
    obtain ⟨i, hi, h6⟩ := sizeK_of h5
    obtain ⟨hn, h7⟩ := takeK_of h6
    rw [dropL_eq] at h7
    refine ⟨_, s, StepP.q fun σ t ρ w _ hr => ?_, h7⟩
    have hx' := hr x (by simp [ho, Op.operands])
    rw [hx] at hx'; simp only [VR, AR] at hx'
    obtain ⟨c', hx', hl⟩ := hx'
    refine ⟨.agg (c'.extract fd.offset (fd.offset + i.size)), .inl ?_, ?_⟩
    · simp [execOp, ho, hx', Instr.field, run_underlying hd, hf', asAgg, part, run_isAgg hd', hg, run_sizeOf hi]
    · simp only [VR, AR]
      refine ⟨_, rfl, ?_⟩
      have e1 : (c'.extract fd.offset (fd.offset + i.size)).toList = (c'.toList.drop fd.offset).take i.size := by
        rw [Array.toList_extract, List.extract_eq_drop_take]
        congr 1
        omega
      rw [e1]
      exact LR_F2.2 (((LR_F2.1 hl).drop _).take _)

/-- What is flat is what it is. -/
theorem flats {l : List Operand} {ρ : Operand → Value} (hf : allFlat (exs a l) = true) (hr : ∀ x ∈ l, VR σ (ex a x) (ρ x)) : ∀ x ∈ l, ρ x = ex a x := fun x hx =>
  flat_eq _ _ (allFlat_of hf _ (by unfold exs; rw [mapL_eq]; exact List.mem_map_of_mem hx)) (hr x hx)
theorem pureK_of {α : Type} {m : Sem α} {k : α → Bool} (h : pureK P m k = true) : ∃ x, k x = true ∧ ∀ w, m.run P w = .ok x w := by
  induction m with
  | pure y => exact ⟨y, h, fun _ => rfl⟩
  | program kk ih => obtain ⟨x, h1, h2⟩ := ih P h; exact ⟨x, h1, h2⟩
  | mark m kk ih => obtain ⟨x, h1, h2⟩ := ih h; exact ⟨x, h1, h2⟩
  | _ => exact no h
theorem nextK_of {n : Next} {k : Value → Bool} (h : nextK n k = true) : ∃ v, k v = true ∧ ∀ w, Gives (.ok n w) v w := by
  cases n <;> first
    | exact no h
    | exact ⟨_, h, fun _ => .inl rfl⟩
    | exact ⟨_, h, fun _ => .inr ⟨rfl, rfl⟩⟩
theorem plain_of {k : K} (hs : ∀ cs b, o.op ≠ .select cs b) (h : plainK P a s o k = true) : ∃ v s', StepQ P base o a s v s' ∧ k v a s' = true := by
  obtain ⟨hf, h1⟩ := cond_of h
  obtain ⟨n, h2, h3⟩ := pureK_of h1
  obtain ⟨v, h4, h5⟩ := nextK_of h2
  obtain ⟨hv, h6⟩ := cond_of h4
  refine ⟨v, s, StepP.q fun σ t ρ w _ hr => ⟨v, ?_, flat_refl v hv⟩, h6⟩
  have e : execOp ρ o = execOp (ex a) o := execOp_congr o hs fun x hx => flats (l := o.op.operands.toList) hf (fun x hx => hr x (by simpa using hx)) x (by simpa using hx)
  rw [e, h3 w]
  exact h5 w
theorem ba_get (b : ByteArray) (m : Nat) : b[m]? = b.data[m]? := by
  by_cases h : m < b.size
  · rw [getElem?_pos b m h, getElem?_pos b.data m h]; rfl
  · rw [getElem?_neg b m h, getElem?_neg b.data m h]
theorem index_of {k : K} {ty : TypeId} {x ix : Operand} (ho : o.op = .index ty x ix) (h : evIndex P ty x ix o a s k = true) : ∃ v s', StepQ P base o a s v s' ∧ k v a s' = true := by
  have key : plainK P a s o k = true ∨ (∃ b, ex a x = .string b ∧ (underK P ty fun d => bif isStr d then intNatK (ex a ix) fun i => nthK i b.data.toList fun b => k (.int .u8 (.ofNat b.toNat)) a s else false) = true) := by
    unfold evIndex at h
    generalize ex a x = u at h
    cases u <;> first | exact .inl h | exact .inr ⟨_, rfl, h⟩
  rcases key with h | ⟨b, hx, h⟩
  · exact plain_of (by rw [ho]; intro _ _ e; cases e) h
  · obtain ⟨d, hd, h1⟩ := underK_of h
    obtain ⟨hstr, h2⟩ := cond_of h1
    have := isStr_of hstr; subst this
    obtain ⟨u, m, hix, h3⟩ := intNatK_of h2
    obtain ⟨y, hy, h4⟩ := nthK_of h3
    refine ⟨_, s, StepP.q fun σ t ρ w _ hr => ⟨.int .u8 (.ofNat y.toNat), .inl ?_, by simp only [VR]⟩, h4⟩
    have hx' := hr x (by simp [ho, Op.operands])
    have hix' := hr ix (by simp [ho, Op.operands])
    rw [hx] at hx'; rw [hix] at hix'
    simp only [VR] at hx' hix'
    have hy' : b[m]? = some y := by
      have : b.data[m]? = some y := by rw [← Array.getElem?_toList]; exact hy
      rw [ba_get]; exact this
    simp [execOp, ho, hx', hix', Instr.index, asIntOf, run_underlying hd, hy']
end
end Go.Ev
