import Derived.Test.YtkbffpadkdgbmaaGreatDoorEvC1
import Derived.Orders
import Derived.Laws.NewFold
/- Operations that only reckon, that lay a block, that read. -/
namespace Go.Ev
open Go Go.RowKit
set_option linter.unusedVariables false
set_option linter.unusedSimpArgs false
set_option linter.deprecated false

/-- Nothing stands behind the last block. -/
def St.Ok (s : St) : Prop := ∀ b, s.next ≤ b → s.blk b = .dead
/-- No block goes, and nothing stands behind the last one. -/
def St.Up (s t : St) : Prop := s.next ≤ t.next ∧ (s.Ok → t.Ok)
theorem St.Up.refl (s : St) : s.Up s := ⟨Nat.le_refl _, id⟩
theorem St.New.ok {s t : St} {X : Blk} (h : s.New X t) (hs : s.Ok) : t.Ok := fun b hb => by
  rw [h.next] at hb
  rw [h.blk, if_neg (by omega)]
  exact hs b (by omega)
theorem St.Put.ok {s t : St} {b : Nat} {X : Blk} (h : s.Put b X t) (hl : s.blk b ≠ .dead) (hs : s.Ok) : t.Ok := fun c hc => by
  rw [h.next] at hc
  rw [h.blk, if_neg]
  · exact hs c hc
  · rintro rfl; exact hl (hs c hc)
theorem St.New.up {s t : St} {X : Blk} (h : s.New X t) : s.Up t := ⟨by rw [h.next]; omega, h.ok⟩
theorem St.Put.up {s t : St} {b : Nat} {X : Blk} (h : s.Put b X t) (hl : s.blk b ≠ .dead) : s.Up t := ⟨by rw [h.next]; exact Nat.le_refl _, h.ok hl⟩
theorem St.Up.trans {s t u : St} (h : s.Up t) (k : t.Up u) : s.Up u := ⟨Nat.le_trans h.1 k.1, fun hs => k.2 (h.2 hs)⟩
theorem St.Ok.lt {s : St} (hs : s.Ok) {b : Nat} (h : s.blk b ≠ .dead) : b < s.next := Nat.lt_of_not_le fun hb => h (hs b hb)

/-- What an operation gives. -/
def Gives (r : Result Next) (v : Value) (w : World) : Prop := r = .ok (.value v) w ∨ (r = .ok .skip w ∧ v = undef)
def OpsRel (σ : Emb) (a : Fr) (ρ : Operand → Value) (op : Op) : Prop := ∀ x ∈ op.operands, VR σ (ex a x) (ρ x)

section
variable (P : Program) (base : Nat)
/-- It only reckons. -/
def StepP (o : Oper) (a : Fr) (v : Value) : Prop :=
  ∀ σ t ρ w, HR P base σ t w → OpsRel σ a ρ o.op → ∃ v', Gives ((execOp ρ o).run P w) v' w ∧ VR σ v v'
/-- It reckons, or lays one block. -/
def StepN (o : Oper) (a : Fr) (s : St) (v : Value) (s' : St) : Prop :=
  (s' = s ∧ ∀ σ t ρ w, HR P base σ t w → OpsRel σ a ρ o.op → ∃ v', Gives ((execOp ρ o).run P w) v' w ∧ VR σ v v') ∨
  (∃ X, s.New X s' ∧ ∀ σ t ρ w, HR P base σ t w → OpsRel σ a ρ o.op → s.next < t.next → σ s.next = none → t.blk s.next = X →
    ∃ v' w' p, Gives ((execOp ρ o).run P w) v' w' ∧ VR (σ.put s.next p) v v' ∧ HR P base (σ.put s.next p) t w' ∧ Below base w w')
/-- It reads. -/
def StepR (o : Oper) (a : Fr) (s : St) (v : Value) : Prop :=
  ∀ σ t ρ w, HR P base σ t w → OpsRel σ a ρ o.op → (∀ b, b < s.next → t.blk b = s.blk b) → s.Ok →
    ∃ v' w', Gives ((execOp ρ o).run P w) v' w' ∧ VR σ v v' ∧ HR P base σ t w' ∧ Below base w w'
/-- It is quiet. -/
def StepQ (o : Oper) (a : Fr) (s : St) (v : Value) (s' : St) : Prop := StepN P base o a s v s' ∨ (reads o.op = true ∧ s' = s ∧ StepR P base o a s v)
end

section
variable {P : Program} {base : Nat} {σ : Emb} {s t : St} {w : World} {a : Fr} {o : Oper} {v : Value}
theorem StepP.n (h : StepP P base o a v) : StepN P base o a s v s := .inl ⟨rfl, h⟩
theorem StepP.q (h : StepP P base o a v) : StepQ P base o a s v s := .inl h.n
theorem StepP.r (h : StepP P base o a v) : StepR P base o a s v := fun σ t ρ w hr ho _ _ => by
  obtain ⟨v', h1, h2⟩ := h σ t ρ w hr ho
  exact ⟨v', w, h1, h2, hr, Below.refl _ _⟩

theorem run_typeInfo {t : TypeId} {i : TypeInfo} (h : P.info? t = some i) : (typeInfo t).run P w = .ok i w := by simp [typeInfo, h]
theorem run_sizeOf {t : TypeId} {i : TypeInfo} (h : P.info? t = some i) : (sizeOf t).run P w = .ok i.size w := by simp [sizeOf, run_typeInfo h]
theorem run_zeroValue {t : TypeId} {i : TypeInfo} {z : Value} (h : P.info? t = some i) (hz : i.zero = some z) : (zeroValue t).run P w = .ok z w := by simp [zeroValue, run_typeInfo h, hz]
theorem run_isAgg {t : TypeId} {d : TypeDesc} (h : P.underlying t = some d) : (Go.isAgg t).run P w = .ok (isAgg d) w := by
  unfold Go.isAgg
  rw [Sem.run_bind, run_underlying h]
  cases d <;> rfl
theorem run_newRow {e : TypeId} {c : Array Value} : (newRow e c).run P w = .ok ⟨w.heap.size, 0, none⟩ (w.alloc (.cells c e)) := by
  unfold newRow
  rw [Sem.run_bind, run_newObj_alloc]
  rfl
theorem cellsOf_eq {t : TypeId} {i : TypeInfo} (h : P.info? t = some i) : P.cellsOf t = i.size := by simp [Program.cellsOf, h]

/-- A step that lays one row, given by what the model does there. -/
theorem StepN.row {s' : St} {c : List Value} {e : TypeId} {q : Kd} {v : Value} (hn : s.New (.cells c e q) s')
    (h : ∀ σ ρ w, OpsRel σ a ρ o.op → ∃ v' w₁ rc x fz, Gives ((execOp ρ o).run P w) v' (World.alloc w₁ (.cells rc e fz)) ∧ w₁.heap = w.heap ∧ w₁.os = w.os ∧ w₁.tape = w.tape ∧ w₁.output = w.output ∧
      F2 (CR σ) c (rc.toList.take c.length) ∧ rc.size = c.length + x * P.cellsOf e ∧ (q = .roomy ∨ x = 0) ∧ thawed fz rc.size ∧
      ∀ τ : Emb, Emb.le σ τ → τ s.next = some (w.heap.size, x) → VR τ v v') : StepN P base o a s v s' := by
  refine .inr ⟨_, hn, fun σ t ρ w hr ho hlt hσ hX => ?_⟩
  obtain ⟨v', w₁, rc, x, fz, h1, h2, h3, h4, h5, h6, h7, h8, h9, h10⟩ := h σ ρ w ho
  have hr₁ : HR P base σ t w₁ := hr.world (by rw [h2]; exact hr.size) (fun k _ => by rw [h2])
  refine ⟨v', _, (w.heap.size, x), h1, h10 _ (Emb.le_put hσ) Emb.put_self, ?_, ?_⟩
  · rw [← h2]
    exact hr₁.layRow hσ hlt hX h6 h7 h8 h9
  · have := below_alloc (base := base) hr₁.size (.cells rc e fz)
    exact ⟨this.os.trans h3, this.tape.trans h4, this.output.trans h5, by have := this.size; rw [h2] at this; exact this, fun k hk => by have := this.block k hk; rw [h2] at this; exact this⟩

theorem F2_take {R : Value → Value → Prop} {l l' : List Value} (h : F2 R l l') : F2 R l (l'.take l.length) := by
  rw [← h.length, List.take_length]; exact h
theorem F2_cr {σ : Emb} {l l' : List Value} (h : F2 (VR σ) l l') : F2 (CR σ) l l' := F2.mono (S := CR σ) (fun _ _ hr _ => hr) h
theorem flat_cells {σ : Emb} {z : Value} (h : flat z = true) : F2 (VR σ) z.cells.toList z.cells.toList := (flat_refl z h).cells
theorem vptr_VR {τ : Emb} {b r x : Nat} (h : τ b = some (r, x)) (o : Nat) : VR τ (vptr b o) (.pointer (some ⟨r, o, none⟩)) := by
  simp only [vptr, VR]; exact ⟨r, x, h, by trivial, rfl⟩

/-! One by one. -/
theorem move_of {k : K} {x : Operand} (ho : o.op = .move x ∨ o.op = .assign x) (h : k (ex a x) a s = true) : ∃ v s', StepQ P base o a s v s' ∧ k v a s' = true := by
  refine ⟨_, s, StepP.q fun σ t ρ w _ hr => ⟨ρ x, .inl ?_, hr x ?_⟩, h⟩
  · rcases ho with ho | ho <;> simp [execOp, ho]
  · rcases ho with ho | ho <;> simp [ho, Op.operands]
theorem pick_of {k : K} {c x y : Operand} (ho : o.op = .pick c x y) (h : boolK (ex a c) (fun b => bif b then k (ex a x) a s else k (ex a y) a s) = true) :
    ∃ v s', StepQ P base o a s v s' ∧ k v a s' = true := by
  obtain ⟨b, hb, h⟩ := boolK_of h
  cases b
  · refine ⟨_, s, StepP.q fun σ t ρ w _ hr => ⟨ρ y, .inl ?_, hr y (by simp [ho, Op.operands])⟩, h⟩
    have hc := hr c (by simp [ho, Op.operands])
    rw [hb] at hc; simp only [VR] at hc
    simp [execOp, ho, hc, asBool]
  · refine ⟨_, s, StepP.q fun σ t ρ w _ hr => ⟨ρ x, .inl ?_, hr x (by simp [ho, Op.operands])⟩, h⟩
    have hc := hr c (by simp [ho, Op.operands])
    rw [hb] at hc; simp only [VR] at hc
    simp [execOp, ho, hc, asBool]
theorem alloc_of {k : K} {t : TypeId} (ho : o.op = .alloc t) (h : evAlloc P t a s k = true) : ∃ v s', StepQ P base o a s v s' ∧ k v a s' = true := by
  obtain ⟨i, z, hi, hz, hf, h⟩ := zeroK_of h
  obtain ⟨s', hn, h⟩ := newK_of h
  refine ⟨_, s', .inl (StepN.row hn fun σ ρ w _ => ⟨_, w, z.cells, 0, (0, 0), .inl ?_, rfl, rfl, rfl, rfl, ?_, ?_, .inr rfl, .inl rfl, fun τ _ hτ => vptr_VR hτ 0⟩), h⟩
  · simp [execOp, ho, Instr.alloc, run_zeroValue hi hz, newVar, run_newRow]
  · rw [cellsL_eq]; exact F2_take (F2_cr (flat_cells hf))
  · rw [cellsL_eq]; simp
theorem box_of {k : K} {t : TypeId} {x : Operand} (ho : o.op = .box t x) (h : evBox t x a s k = true) : ∃ v s', StepQ P base o a s v s' ∧ k v a s' = true := by
  obtain ⟨s', hn, h⟩ := newK_of h
  refine ⟨_, s', .inl (StepN.row hn fun σ ρ w hr => ⟨_, w, (ρ x).cells, 0, (0, 0), .inl ?_, rfl, rfl, rfl, rfl, ?_, ?_, .inr rfl, .inl rfl, fun τ _ hτ => vptr_VR hτ 0⟩), h⟩
  · simp [execOp, ho, Instr.box, newVar, run_newRow]
  · rw [cellsL_eq]; exact F2_take (F2_cr (hr x (by simp [ho, Op.operands])).cells)
  · have := (hr x (by simp [ho, Op.operands])).cells.length
    rw [cellsL_eq]; simpa using this
theorem extract_of {k : K} {x : Operand} {i : Nat} (ho : o.op = .extract x i) (h : evExtract x i a s k = true) : ∃ v s', StepQ P base o a s v s' ∧ k v a s' = true := by
  obtain ⟨c, hc, h⟩ := tupK_of h
  obtain ⟨v, hv, h⟩ := nthK_of h
  refine ⟨v, s, StepP.q fun σ t ρ w _ hr => ?_, h⟩
  have hx := hr x (by simp [ho, Op.operands])
  rw [hc] at hx; simp only [VR, AR] at hx
  obtain ⟨c', hx', hl⟩ := hx
  obtain ⟨v', hv', hr'⟩ := (LR_F2.1 hl).get i hv
  refine ⟨v', .inl ?_, hr'⟩
  have : c'[i]? = some v' := by rw [← Array.getElem?_toList]; exact hv'
  simp [execOp, ho, hx', Instr.extract, this]
theorem nil_of {k : K} {x : Operand} (ho : o.op = .nilCheck x) (h : evNil x a s k = true) : ∃ v s', StepQ P base o a s v s' ∧ k v a s' = true := by
  unfold evNil at h
  have hk : (∃ p, ex a x = .pointer (some p) ∧ k (.pointer (some p)) a s = true) ∨ (∃ f b c, ex a x = .func (.func f) b c ∧ k (.func (.func f) b c) a s = true) := by
    generalize ex a x = v at h
    cases v <;> first
      | exact no h
      | (obtain ⟨p, rfl, h⟩ := optK_of h; exact .inl ⟨p, rfl, h⟩)
      | (obtain ⟨f, rfl, h⟩ := fnK_of h; exact .inr ⟨f, _, _, rfl, h⟩)
  rcases hk with ⟨p, hp, h⟩ | ⟨f, b, c, hp, h⟩
  · refine ⟨_, s, StepP.q fun σ t ρ w _ hr => ⟨ρ x, .inl ?_, by rw [← hp]; exact hr x (by simp [ho, Op.operands])⟩, h⟩
    have hx := hr x (by simp [ho, Op.operands])
    rw [hp] at hx; simp only [VR] at hx
    obtain ⟨r, y, _, _, hx⟩ := hx
    simp [execOp, ho, hx]
  · refine ⟨_, s, StepP.q fun σ t ρ w _ hr => ⟨ρ x, .inl ?_, by rw [← hp]; exact hr x (by simp [ho, Op.operands])⟩, h⟩
    have hx := hr x (by simp [ho, Op.operands])
    rw [hp] at hx; simp only [VR] at hx
    obtain ⟨r, y, hx, _, _⟩ := hx
    simp [execOp, ho, hx]
theorem makeFunc_of {k : K} {fn : Fn} {x y : Array Operand} (ho : o.op = .makeFunc fn x y) (h : evMakeFunc fn x y a s k = true) : ∃ v s', StepQ P base o a s v s' ∧ k v a s' = true := by
  refine ⟨_, s, StepP.q fun σ t ρ w _ hr => ⟨.func fn (x.map ρ) (y.map ρ), .inl ?_, ?_⟩, h⟩
  · simp [execOp, ho, Instr.makeFunc]
  · have hx : ∀ z : Array Operand, (∀ x ∈ z, VR σ (ex a x) (ρ x)) → AR σ ⟨exs a z.toList⟩ (z.map ρ) := by
      intro z hz
      simp only [AR, exs, mapL_eq, Array.toList_map]
      exact LR_F2.2 (F2.same fun c hc => hz c (by simpa using hc))
    simp only [VR]
    exact ⟨_, _, rfl, hx x fun c hc => hr c (by simp [ho, Op.operands, hc]), hx y fun c hc => hr c (by simp [ho, Op.operands, hc])⟩
theorem makeMap_of {k : K} {t : TypeId} {x : Option Operand} (ho : o.op = .makeMap t x) (h : evMakeMap x a s k = true) : ∃ v s', StepQ P base o a s v s' ∧ k v a s' = true := by
  obtain ⟨rfl, h1⟩ := noneK_of h
  obtain ⟨s', hn, h2⟩ := newK_of h1
  refine ⟨_, s', .inl (.inr ⟨_, hn, fun σ t ρ w hr _ hlt hσ hX => ⟨.map (some w.heap.size), w.alloc (.map #[] 0), (w.heap.size, 0), .inl ?_, ?_, hr.layMap hσ hlt hX, below_alloc hr.size _⟩⟩), h2⟩
  · simp [execOp, ho, Instr.makeMap]
  · simp only [VR]; exact ⟨_, _, Emb.put_self, rfl⟩
theorem fieldAddr_of {k : K} {t : TypeId} {x : Operand} {f : Nat} (ho : o.op = .fieldAddr t x f) (h : evFieldAddr P t x f a s k = true) : ∃ v s', StepQ P base o a s v s' ∧ k v a s' = true := by
  obtain ⟨p, hp, h1⟩ := ptrK_of h
  obtain ⟨p, rfl, h2⟩ := optK_of h1
  obtain ⟨b, f', rfl, h3⟩ := addrK_of h2
  obtain ⟨d, hd, h4⟩ := underK_of h3
  obtain ⟨fs, rfl, h5⟩ := structTK_of h4
  obtain ⟨fd, hf, h6⟩ := nthK_of h5
  obtain ⟨i, hi, h7⟩ := sizeK_of h6
  obtain ⟨hz, h8⟩ := cond_of' h7
  refine ⟨_, s, StepP.q fun σ t' ρ w _ hr => ?_, h8⟩
  have hx := hr x (by simp [ho, Op.operands])
  rw [hp] at hx; simp only [VR] at hx
  obtain ⟨r, y, hσ, _, hx⟩ := hx
  refine ⟨.pointer (some ⟨r, f' + fd.offset, none⟩), .inl ?_, vptr_VR hσ _⟩
  have hz' : i.size ≠ 0 := fun e => by rw [e] at hz; exact absurd hz (by decide)
  have hf' : (⟨fs⟩ : Array Field)[f]? = some fd := by rw [← Array.getElem?_toList]; exact hf
  simp [execOp, ho, hx, Instr.fieldAt, run_underlying hd, hf', Instr.sureAddr, fieldPlace, run_sizeOf hi, hz', addr_add]
end
end Go.Ev
