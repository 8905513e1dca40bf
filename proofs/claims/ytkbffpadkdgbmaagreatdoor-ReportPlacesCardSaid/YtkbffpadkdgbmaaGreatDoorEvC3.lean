import Derived.Test.YtkbffpadkdgbmaaGreatDoorEvC2
/- Operations: aggregates, elements, slices, what is read. -/
namespace Go.Ev
open Go Go.RowKit
set_option linter.unusedVariables false
set_option linter.unusedSimpArgs false
set_option linter.deprecated false

section
variable {P : Program} {base : Nat} {σ : Emb} {s t : St} {w : World} {a : Fr} {o : Oper} {v : Value}

theorem foldSet (off : Nat) : ∀ (vs : List Value) (n : Nat) (cs : Array Value), off + n + vs.length ≤ cs.size →
    ((vs.zipIdx n).foldl (fun (cs : Array Value) (p : Value × Nat) => cs.setIfInBounds (off + p.2) p.1) cs).toList = cs.toList.take (off + n) ++ vs ++ cs.toList.drop (off + n + vs.length)
  | [], n, cs, _ => by simp
  | v :: vs, n, cs, h => by
    simp only [List.zipIdx_cons, List.foldl_cons]
    have hl : off + (n + 1) + vs.length ≤ (cs.setIfInBounds (off + n) v).size := by simp at h ⊢; omega
    rw [foldSet off vs (n + 1) _ hl]
    have e := list_seg_step cs.toList (off + n) v vs (by simp at h ⊢; omega)
    simpa [Array.toList_setIfInBounds, Nat.add_assoc] using e
theorem fill_step {pr : Nat → Option (Nat × Nat)} {cs : Array Value} {i : Nat} {v : Value} {rest : List (Nat × Value)} {off : Nat} (hp : pr i = some (off, v.cells.size)) (hl : off + v.cells.size ≤ cs.size) :
    ∃ cs', Instr.fill pr cs ((i, v) :: rest) = Instr.fill pr cs' rest ∧ cs'.toList = cs.toList.take off ++ v.cells.toList ++ cs.toList.drop (off + v.cells.size) := by
  refine ⟨_, ?_, foldSet off v.cells.toList 0 cs (by simpa using hl)⟩
  simp only [Instr.fill, hp]
  rw [if_neg]
  · congr 1
    rw [← Array.foldl_toList, Array.toList_zipIdx]
  · simp only [ne_eq, not_true_eq_false, decide_false, Bool.false_or, decide_eq_true_eq]
    omega
/-- Parts, as they are told and as they are. -/
def PR (σ : Emb) (p q : Nat × Value) : Prop := q.1 = p.1 ∧ VR σ p.2 q.2
theorem fillK_of {place : Nat → (Nat → Nat → Bool) → Bool} {pr : Nat → Option (Nat × Nat)} (hp : ∀ i K, place i K = true → ∃ off size, pr i = some (off, size) ∧ K off size = true) :
    ∀ {ps : List (Nat × Value)} {c : List Value} {k : List Value → Bool}, fillK place ps c k = true →
      ∃ c₂, k c₂ = true ∧ ∀ σ ps' (c' : Array Value), F2 (PR σ) ps ps' → F2 (VR σ) c c'.toList → ∃ c₂', Instr.fill pr c' ps' = some c₂' ∧ F2 (VR σ) c₂ c₂'.toList
  | [], c, k, h => ⟨c, h, fun σ ps' c' hps hc => by rw [hps]; exact ⟨c', rfl, hc⟩⟩
  | (i, v) :: rest, c, k, h => by
    obtain ⟨off, size, h1, h2⟩ := hp i _ h
    obtain ⟨h3, h4⟩ := cond_of h2
    obtain ⟨h5, h6⟩ := overAtK_of h4
    obtain ⟨c₂, h7, h8⟩ := fillK_of hp (ps := rest) h6
    refine ⟨c₂, h7, fun σ ps' c' hps hc => ?_⟩
    obtain ⟨⟨j, v'⟩, rest', rfl, ⟨h9, h10⟩, h11⟩ := hps
    simp only at h9 h10
    subst h9
    have hsz : v'.cells.size = size := by
      have e1 := h10.cells.length
      have e2 := beqN_true h3
      rw [lenL_eq, cellsL_eq] at e2
      simp only [Array.length_toList] at e1 e2
      omega
    have hcl := hc.length
    have hvl := h10.cells.length
    rw [cellsL_eq] at h5 h8
    simp only [Array.length_toList] at hcl hvl h5
    obtain ⟨cs', e1, e2⟩ := fill_step (pr := pr) (cs := c') (i := j) (v := v') (rest := rest') (off := off) (by rw [hsz]; exact h1) (by omega)
    rw [e1]
    refine h8 σ rest' cs' h11 ?_
    rw [e2, hvl]
    simp only [Array.length_toList]
    exact ((hc.take off).append h10.cells).append (hc.drop _)
theorem partsL_F2 {ρ : Operand → Value} {parts : Array (Nat × Operand)} (h : ∀ p ∈ parts, VR σ (ex a p.2) (ρ p.2)) :
    F2 (PR σ) (partsL a parts.toList) (parts.map fun (i, x) => (i, ρ x)).toList := by
  unfold partsL
  rw [mapL_eq, Array.toList_map]
  exact F2.same fun c hc => ⟨rfl, h c (by simpa using hc)⟩
theorem build_of {k : K} {ty : TypeId} {parts : Array (Nat × Operand)} (ho : o.op = .build ty parts) (h : evBuild P ty parts a s k = true) : ∃ v s', StepQ P base o a s v s' ∧ k v a s' = true := by
  obtain ⟨i, z, hi, hz, hf, h1⟩ := zeroK_of h
  obtain ⟨d, hd, h2⟩ := underK_of h1
  have parts_ok : ∀ {σ ρ}, OpsRel σ a ρ o.op → F2 (PR σ) (partsL a parts.toList) (parts.map fun (i, x) => (i, ρ x)).toList := fun hr =>
    partsL_F2 fun p hp => hr p.2 (by simp [ho, Op.operands]; exact ⟨p.1, by simpa using hp⟩)
  rcases isArr_of h2 with ⟨fs, rfl, h3⟩ | ⟨n, e, rfl, h3⟩
  · obtain ⟨pl, hpl, h4⟩ := optK_of h3
    obtain ⟨c₂, h5, h6⟩ := fillK_of (pr := (pl.toArray[·]?)) (fun i K hK => by
      obtain ⟨⟨x, y⟩, hx, hy⟩ := nthK_of hK
      exact ⟨x, y, by simpa using hx, hy⟩) h4
    refine ⟨_, s, StepP.q fun σ t ρ w _ hr => ?_, h5⟩
    obtain ⟨c₂', h7, h8⟩ := h6 σ _ z.cells (parts_ok hr) (by rw [cellsL_eq]; exact flat_cells hf)
    refine ⟨.agg c₂', .inl ?_, ?_⟩
    · have hb : P.built ty (parts.map fun (i, x) => (i, ρ x)).toList = some c₂' := by
        simp only [Program.built, hi, hd, hz]
        have : (⟨fs⟩ : Array Field).toList.mapM (fun f => (P.info? f.type).map fun i => (f.offset, i.size)) = some pl := hpl
        simp only [this]
        exact h7
      simp [execOp, ho, run_build (P := P) w ty _ c₂' hb]
    · simp only [VR, AR]; exact ⟨c₂', rfl, LR_F2.2 h8⟩
  · obtain ⟨ie, hie, h4⟩ := sizeK_of h3
    obtain ⟨c₂, h5, h6⟩ := fillK_of (pr := fun i => some (i * ie.size, ie.size)) (fun i K hK => ⟨_, _, rfl, hK⟩) h4
    refine ⟨_, s, StepP.q fun σ t ρ w _ hr => ?_, h5⟩
    obtain ⟨c₂', h7, h8⟩ := h6 σ _ z.cells (parts_ok hr) (by rw [cellsL_eq]; exact flat_cells hf)
    refine ⟨.agg c₂', .inl ?_, ?_⟩
    · have hb : P.built ty (parts.map fun (i, x) => (i, ρ x)).toList = some c₂' := by
        simp only [Program.built, hi, hd, hz, hie]
        exact h7
      simp [execOp, ho, run_build (P := P) w ty _ c₂' hb]
    · simp only [VR, AR]; exact ⟨c₂', rfl, LR_F2.2 h8⟩

/-- n copies of z's cells. -/
theorem cells_repl (z : Array Value) (n : Nat) : ((Array.range (n * z.size)).map fun i => z[i % z.size]!).toList = (List.replicate n z.toList).flatten := by
  induction n with
  | zero => simp
  | succ n ih =>
    rw [Array.toList_map, Array.toList_range] at ih ⊢
    rw [Nat.succ_mul, List.range_add, List.map_append, ih]
    rw [List.replicate_succ', List.flatten_append]
    congr 1
    simp only [List.flatten_cons, List.flatten_nil, List.append_nil, List.map_map]
    apply List.ext_getElem?
    intro j
    simp only [List.getElem?_map]
    by_cases hj : j < z.size
    · rw [List.getElem?_range hj]
      simp only [Option.map_some, Function.comp_apply, Nat.mul_add_mod_self_right]
      rw [Nat.mod_eq_of_lt hj]
      simp [hj]
    · rw [List.getElem?_eq_none (by simpa using hj), List.getElem?_eq_none (by simpa using hj)]
      rfl
theorem cells_rep (z : Array Value) (n size : Nat) (hz : z.size = size) : ((Array.range (n * size)).map fun i => (if n * size = 0 then #[] else z)[i % (if n * size = 0 then (#[] : Array Value) else z).size]!).toList = (List.replicate n z.toList).flatten := by
  subst hz
  by_cases h : n * z.size = 0
  · rw [← cells_repl]; simp [h]
  · simp only [h, if_false]; exact cells_repl z n
theorem slice_VR {τ : Emb} {b r x : Nat} (h : τ b = some (r, x)) (f n c : Nat) : VR τ (.slice (some ⟨b, f, none⟩) n c) (.slice (some ⟨r, f, none⟩) n (c + x)) := by
  simp only [VR]; exact ⟨r, x, h, by trivial, rfl⟩
theorem rep_F2 {z : Value} (h : flat z = true) (n : Nat) : F2 (VR σ) (List.replicate n z.cells.toList).flatten (List.replicate n z.cells.toList).flatten := by
  induction n with
  | zero => rfl
  | succ n ih => rw [List.replicate_succ]; exact (flat_cells h).append ih
theorem buildSlice_of {k : K} {ty : TypeId} {len : Nat} {parts : Array (Nat × Operand)} (ho : o.op = .buildSlice ty len parts) (h : evBuildSlice P ty len parts a s k = true) :
    ∃ v s', StepQ P base o a s v s' ∧ k v a s' = true := by
  obtain ⟨d, hd, h1⟩ := underK_of h
  obtain ⟨e, rfl, h2⟩ := sliceTK_of h1
  obtain ⟨i, hi, h3⟩ := sizeK_of h2
  obtain ⟨i', z, hi', hz, hf, h4⟩ := zeroK_of h3
  obtain ⟨hzs, h5⟩ := cond_of h4
  obtain ⟨hle, h6⟩ := cond_of h5
  obtain ⟨c₂, h7, h8⟩ := fillK_of (pr := fun j => some (j * i.size, i.size)) (fun j K hK => ⟨_, _, rfl, hK⟩) h6
  obtain ⟨s', hn, h9⟩ := newK_of (show newK s (.cells c₂ e .exact) (fun b s => k (.slice (some ⟨b, 0, none⟩) len len) a s) = true from h7)
  have hzs' : z.cells.size = i.size := by have := beqN_true hzs; rw [lenL_eq, cellsL_eq] at this; simpa using this
  have hle' : len * i.size ≤ 16777216 := Nat.le_of_ble_eq_true hle
  refine ⟨_, s', .inl (StepN.row hn fun σ ρ w hr => ?_), h9⟩
  have hparts : F2 (PR σ) (partsL a parts.toList) (parts.map fun (i, x) => (i, ρ x)).toList :=
    partsL_F2 fun p hp => hr p.2 (by simp [ho, Op.operands]; exact ⟨p.1, by simpa using hp⟩)
  obtain ⟨c₂', e1, e2⟩ := h8 σ _ ((Array.range (len * i.size)).map fun j => (if len * i.size = 0 then #[] else z.cells)[j % (if len * i.size = 0 then (#[] : Array Value) else z.cells).size]!) hparts (by
    rw [cells_rep _ _ _ hzs', repL_eq, cellsL_eq]; exact rep_F2 hf len)
  refine ⟨.slice (some ⟨w.heap.size, 0, none⟩) len len, w, c₂', 0, (0, 0), .inl ?_, rfl, rfl, rfl, rfl, F2_take (F2_cr e2), by have := e2.length; simpa using this, .inr rfl, .inl rfl, fun τ _ hτ => slice_VR hτ 0 len len⟩
  have hi'' : i' = i := by rw [hi] at hi'; cases hi'; rfl
  subst hi''
  have hnot : ¬ (2 ^ 24 < len * i'.size) := by omega
  by_cases h0 : len * i'.size = 0
  · simp only [h0, if_true] at e1
    simp [execOp, ho, Instr.buildSlice, run_underlying hd, run_sizeOf hi, h0, run_newRow]
    simp at e1
    simp [e1, run_newRow]
  · simp only [h0, if_false] at e1
    simp [execOp, ho, Instr.buildSlice, run_underlying hd, run_sizeOf hi, h0, hnot, run_zeroValue hi hz, run_newRow]
    simp at e1
    simp [e1, run_newRow]

theorem indexAddr_of {k : K} {ty : TypeId} {x ix : Operand} (ho : o.op = .indexAddr ty x ix) (h : evIndexAddr P ty x ix a s k = true) : ∃ v s', StepQ P base o a s v s' ∧ k v a s' = true := by
  obtain ⟨u, m, hix, h1⟩ := intNatK_of h
  obtain ⟨d, hd, h2⟩ := underK_of h1
  have key : (∃ e p n c, d = .slice e ∧ ex a x = .slice (some p) n c ∧ addrK p (fun b o => bif Nat.blt m n then sizeK P e fun z => k (vptr b (Nat.add o (Nat.mul m z))) a s else false) = true) ∨
      (∃ n e p, d = .array n e ∧ ex a x = .pointer (some p) ∧ addrK p (fun b o => bif Nat.blt m n then sizeK P e fun z => k (vptr b (Nat.add o (Nat.mul m z))) a s else false) = true) := by
    cases d <;> first
      | exact no h2
      | (obtain ⟨p, n, c, hx, h3⟩ := sliceK_of h2
         obtain ⟨p, rfl, h4⟩ := optK_of h3
         exact .inl ⟨_, p, n, c, rfl, hx, h4⟩)
      | (obtain ⟨p, hx, h3⟩ := ptrK_of h2
         obtain ⟨p, rfl, h4⟩ := optK_of h3
         exact .inr ⟨_, _, p, rfl, hx, h4⟩)
  rcases key with ⟨e, p, n, c, rfl, hx, h3⟩ | ⟨n, e, p, rfl, hx, h3⟩
  all_goals
    obtain ⟨b, f, rfl, h4⟩ := addrK_of h3
    obtain ⟨hm, h5⟩ := cond_of h4
    obtain ⟨i, hi, h6⟩ := sizeK_of h5
    have hlt : m < n := by simpa [Nat.blt_eq] using hm
    refine ⟨_, s, StepP.q fun σ t' ρ w _ hr => ?_, h6⟩
    have hx' := hr x (by simp [ho, Op.operands])
    have hix' := hr ix (by simp [ho, Op.operands])
    rw [hx] at hx'; rw [hix] at hix'
    simp only [VR] at hx' hix'
    obtain ⟨r, y, hσ, _, hx'⟩ := hx'
    refine ⟨.pointer (some ⟨r, f + m * i.size, none⟩), .inl ?_, vptr_VR hσ _⟩
    have h0 : (0 : Int) ≤ m := by omega
    have h1' : (m : Int) < n := by omega
    simp [execOp, ho, hx', hix', Instr.indexAt, asIntOf, run_underlying hd, Instr.sureAddr, hlt, run_sizeOf hi, addr_add]
end
end Go.Ev
