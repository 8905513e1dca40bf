import Derived.Test.YtkbffpadkdgbmaaGreatDoorEvC8
/- Loud operations: what is written, what grows. -/
namespace Go.Ev
open Go Go.RowKit Go.Lib
set_option linter.unusedVariables false
set_option linter.unusedSimpArgs false
set_option linter.deprecated false

/-- A deferred call. -/
def DR (P : Program) (σ : Emb) (d : FuncId × List Value) (D : Deferred) : Prop :=
  ∃ cap args, D = ⟨.fn (.func d.1) cap, args⟩ ∧ F2 (VR σ) d.2 (args.toList ++ cap.toList) ∧ isGor P d.1 = false
theorem DR.mono {P : Program} {σ τ : Emb} (hl : Emb.le σ τ) {d : FuncId × List Value} {D : Deferred} (h : DR P σ d D) : DR P τ d D := by
  obtain ⟨c, a, h1, h2, h3⟩ := h
  exact ⟨c, a, h1, h2.mono fun a b => VR.mono hl a b, h3⟩
theorem VRs.mono {σ τ : Emb} (hl : Emb.le σ τ) {l l' : List Value} (h : F2 (VR σ) l l') : F2 (VR τ) l l' := h.mono fun a b => VR.mono hl a b
/-- More blocks; those that lie open are as they were. -/
structure Ext (σ : Emb) (s : St) (τ : Emb) (t : St) : Prop where
  le : Emb.le σ τ
  next : s.next ≤ t.next
  unborn : ∀ b, b < s.next → σ b = none → τ b = none ∧ t.blk b = s.blk b
  ok : s.Ok → t.Ok
theorem Ext.refl (σ : Emb) (s : St) : Ext σ s σ s := ⟨Emb.le.refl σ, Nat.le_refl _, fun _ _ h => ⟨h, rfl⟩, id⟩
theorem Ext.trans {σ τ υ : Emb} {s t u : St} (h : Ext σ s τ t) (k : Ext τ t υ u) : Ext σ s υ u where
  le := h.le.trans k.le
  next := Nat.le_trans h.next k.next
  unborn := fun b hb hσ => by
    obtain ⟨h1, h2⟩ := h.unborn b hb hσ
    obtain ⟨h3, h4⟩ := k.unborn b (Nat.lt_of_lt_of_le hb h.next) h1
    exact ⟨h3, h4.trans h2⟩
  ok := fun hs => k.ok (h.ok hs)

section
variable (P : Program) (base : Nat)
/-- It writes. -/
def StepW (o : Oper) (a : Fr) (s : St) (v : Value) (s' : St) : Prop :=
  s.Up s' ∧ ∀ σ ρ w, HR P base σ s w → OpsRel σ a ρ o.op → ∃ τ v' w', Gives ((execOp ρ o).run P w) v' w' ∧ Ext σ s τ s' ∧ HR P base τ s' w' ∧ Below base w w' ∧ VR τ v v'
/-- The tables that may be named lie where they are named. -/
def Gl (G : List Nat) (σ : Emb) : Prop := ∀ g ∈ G, ∃ x, σ g = some (g, x)
/-- Any step. -/
def StepL (G : List Nat) (o : Oper) (a : Fr) (s : St) (v : Value) (a' : Fr) (s' : St) : Prop :=
  a'.n = a.n ∧ a'.tmps = a.tmps ∧ s.Up s' ∧
  ∀ σ A w K Q, s.Ok → Gl G σ → HR P base σ s w → OpsRel σ a A.eval o.op → F2 (DR P σ) a.defers A.defers →
    (∀ τ v' w' D, Ext σ s τ s' → HR P base τ s' w' → Below base w w' → VR τ v v' → F2 (DR P τ) a'.defers D → K (({ A with defers := D } : Act).put o.dst v') w') → o.wp P A w K Q
end

section
variable {P : Program} {base : Nat} {σ : Emb} {s t : St} {w : World} {a : Fr} {o : Oper} {v : Value}
theorem StepW.l {G : List Nat} (h : StepW P base o a s v t) : StepL P base G o a s v a t := by
  refine ⟨rfl, rfl, h.1, fun σ A w K Q _ _ hr ho hd hk => ?_⟩
  obtain ⟨τ, v', w', h1, h2, h3, h4, h5⟩ := h.2 σ A.eval w hr ho
  have := hk τ v' w' A.defers h2 h3 h4 h5 (hd.mono fun _ _ => DR.mono h2.le)
  unfold Oper.wp
  rcases h1 with h1 | ⟨h1, rfl⟩
  · rw [h1]; exact this
  · rw [h1]; exact this
theorem Ext.new {X : Blk} (h : s.New X t) (hd : ∀ b r x, σ b = some (r, x) → b < s.next) (p : Nat × Nat) : Ext σ s (σ.put s.next p) t where
  le := Emb.le_put (by cases h : σ s.next with
    | none => rfl
    | some q => have := hd _ q.1 q.2 h; omega)
  next := by rw [h.next]; omega
  unborn := fun b hb hσ => by
    refine ⟨by rw [Emb.put_ne (by omega)]; exact hσ, ?_⟩
    rw [h.blk, if_neg (by omega)]
  ok := h.ok
theorem HR.open (h : HR P base σ s w) : σ s.next = none := by
  cases hh : σ s.next with
  | none => rfl
  | some q => have := h.dom _ q.1 q.2 hh; omega
theorem StepQ.ok (hs : s.Ok) (h : StepQ P base o a s v t) : t.Ok := by
  rcases h with (⟨rfl, _⟩ | ⟨X, hn, _⟩) | ⟨_, rfl, _⟩
  · exact hs
  · exact hn.ok hs
  · exact hs
theorem StepQ.up (h : StepQ P base o a s v t) : s.Up t := by
  rcases h with (⟨rfl, _⟩ | ⟨X, hn, _⟩) | ⟨_, rfl, _⟩
  · exact St.Up.refl _
  · exact hn.up
  · exact St.Up.refl _
theorem StepQ.toW (hs : s.Ok) (h : StepQ P base o a s v t) : StepW P base o a s v t := by
  refine ⟨h.up, fun σ ρ w hr ho => ?_⟩
  rcases h with (⟨rfl, h⟩ | ⟨X, hn, h⟩) | ⟨_, rfl, h⟩
  · obtain ⟨v', h1, h2⟩ := h σ t ρ w hr ho
    exact ⟨σ, v', w, h1, Ext.refl σ t, hr, Below.refl _ _, h2⟩
  · obtain ⟨v', w', p, h1, h2, h3, h4⟩ := h σ t ρ w (hr.new hn) ho (by rw [hn.next]; omega) hr.open (by rw [hn.blk]; simp)
    exact ⟨_, v', w', h1, Ext.new hn hr.dom p, h3, h4, h2⟩
  · obtain ⟨v', w', h1, h2, h3, h4⟩ := h σ t ρ w hr ho (fun _ _ => rfl) hs
    exact ⟨σ, v', w', h1, Ext.refl σ t, h3, h4, h2⟩
theorem Ext.put {b : Nat} {X : Blk} (hp : s.Put b X t) (hl : s.blk b ≠ .dead) {p : Nat × Nat} (hσ : σ b = some p) : Ext σ s σ t where
  le := Emb.le.refl σ
  next := by rw [hp.next]; omega
  unborn := fun c _ hc => ⟨hc, by rw [hp.blk, if_neg (fun e => by rw [e, hσ] at hc; cases hc)]⟩
  ok := hp.ok hl

theorem ne_dead {B : Blk} {c : List Value} {e : TypeId} {q : Kd} (h : B = .cells c e q) : B ≠ .dead := fun h' => by rw [h] at h'; cases h'
theorem store_of {k : K} {ty : TypeId} {x y : Operand} (ho : o.op = .store ty x y) (h : evStore P ty x y a s k = true) : ∃ v s', StepW P base o a s v s' ∧ k v a s' = true := by
  obtain ⟨p, hp, h1⟩ := ptrK_of h
  obtain ⟨p, rfl, h2⟩ := optK_of h1
  obtain ⟨i, hi, h3⟩ := sizeK_of h2
  obtain ⟨g, h4⟩ := cond_of h3
  obtain ⟨b, f, c, e, q, s', rfl, hb, hq, hok, hl, hput, h5⟩ := writeK_of h4
  refine ⟨_, s', ⟨hput.up (ne_dead hb), fun σ ρ w hr hor => ?_⟩, h5⟩
  have hx := hor x (by simp [ho, Op.operands])
  have hy := hor y (by simp [ho, Op.operands])
  rw [hp] at hx; simp only [VR] at hx
  obtain ⟨r, z, hσ, _, hx⟩ := hx
  have hcells : F2 (VR σ) (cellsL (ex a y)) (ρ y).cells.toList := by rw [cellsL_eq]; exact hy.cells
  obtain ⟨w', h6, h7, h8⟩ := hr.write hσ hb hq hok hl hcells hput
  refine ⟨σ, undef, w', .inr ⟨?_, rfl⟩, Ext.put hput (ne_dead hb) hσ, h7, h8, by simp only [undef, VR, AR, LR]; exact ⟨_, rfl, rfl⟩⟩
  have hsz : (ρ y).cells.size = i.size := by
    have e1 := hcells.length
    have e2 := beqN_true g
    rw [lenL_eq] at e2
    simp only [Array.length_toList] at e1
    omega
  simp [execOp, ho, hx, Instr.storeAt, Instr.sureAddr, storeVar, run_sizeOf hi, hsz, h6]

/-- One entry is set: where it stands, or at the end. -/
theorem setEK_of {key : List UInt8} {v : Value} : ∀ {es : List (Value × Value)} {k : List (Value × Value) → Bool}, setEK key v es k = true →
    ∃ es₂, k es₂ = true ∧ ∀ σ res n v', F2 (ER σ) es res → VR σ v v' →
      (∃ i old e, Instr.findNow .string (.string ⟨⟨key⟩⟩) res n = some (some (n + i, old)) ∧ res[i]? = some e ∧ e.key = .string ⟨⟨key⟩⟩ ∧ F2 (ER σ) es₂ (res.modify i fun e => { e with key := .string ⟨⟨key⟩⟩, val := v' })) ∨
      (Instr.findNow .string (.string ⟨⟨key⟩⟩) res n = some none ∧ ∀ clock, F2 (ER σ) es₂ (res ++ [{ key := .string ⟨⟨key⟩⟩, val := v', born := clock }]))
  | [], k, h => ⟨_, h, fun σ res n v' hr hv => .inr (by
      rw [hr]
      exact ⟨rfl, fun clock => F2.cons ⟨⟨_, rfl, rfl⟩, hv⟩ F2.nil⟩)⟩
  | (u, x) :: es, k, h => by
    obtain ⟨b, hb, h1⟩ := strK_of h
    simp only at hb; subst hb
    have same : ∀ {e : MapEntry}, ((∃ k, Value.string b = .string k ∧ e.key = .string k)) → Instr.sameNow .string (.string ⟨⟨key⟩⟩) e.key = some (key == b.data.toList) := by
      rintro e ⟨k, e1, e2⟩
      cases e1
      rw [e2, sameNow_str]
    cases hk : (b.data.toList == key)
    · rw [hk, cond_false] at h1
      have hk' : (key == b.data.toList) = false := by rw [← hk, Bool.eq_iff_iff]; simp only [beq_iff_eq]; exact eq_comm
      obtain ⟨es₂, h2, h3⟩ := setEK_of (es := es) h1
      refine ⟨_, h2, fun σ res n v' hr hv => ?_⟩
      obtain ⟨e, rest, rfl, he, hr⟩ := hr
      rcases h3 σ rest (n + 1) v' hr hv with ⟨i, old, e', f1, f2, f3, f4⟩ | ⟨f1, f2⟩
      · refine .inl ⟨i + 1, old, e', ?_, by simpa using f2, f3, ?_⟩
        · simp only [Instr.findNow, same he.1, hk', f1]
          congr 3; omega
        · rw [List.modify_succ_cons]; exact F2.cons he f4
      · refine .inr ⟨?_, fun clock => F2.cons he (f2 clock)⟩
        simp only [Instr.findNow, same he.1, hk', f1]
    · rw [hk, cond_true] at h1
      have hkeq : b.data.toList = key := by simpa using hk
      have hk' : (key == b.data.toList) = true := by rw [hkeq]; simp
      refine ⟨_, h1, fun σ res n v' hr hv => .inl ?_⟩
      obtain ⟨e, rest, rfl, he, hr⟩ := hr
      obtain ⟨kk, e1, e2⟩ := he.1
      cases e1
      have hbk : b = ⟨⟨key⟩⟩ := by rw [← hkeq]
      refine ⟨0, e.val, e, by simp only [Instr.findNow, same he.1, hk', Nat.add_zero], rfl, by rw [e2, hbk], ?_⟩
      rw [List.modify_zero_cons]
      exact F2.cons ⟨⟨b, rfl, by rw [hbk]⟩, hv⟩ hr
theorem mapUpdate_of {k : K} {ty : TypeId} {x ix y : Operand} (ho : o.op = .mapUpdate ty x ix y) (h : evMapUpdate P ty x ix y a s k = true) : ∃ v s', StepW P base o a s v s' ∧ k v a s' = true := by
  obtain ⟨d, hd, h1⟩ := underK_of h
  obtain ⟨kt, et, rfl, h2⟩ := mapTK_of h1
  obtain ⟨kd, hk, h3⟩ := underK_of h2
  obtain ⟨g, h4⟩ := cond_of h3
  have := isStr_of g; subst this
  obtain ⟨key, hkey, h5⟩ := strK_of h4
  obtain ⟨m, hm, h6⟩ := mapK_of h5
  obtain ⟨b, rfl, h7⟩ := optK_of h6
  obtain ⟨es, hb, h8⟩ := mapBK_of h7
  obtain ⟨es₂, h9, h10⟩ := setEK_of h8
  obtain ⟨s', hput, h11⟩ := putK_of h9
  have hlive : s.blk b ≠ .dead := fun e => by rw [hb] at e; cases e
  refine ⟨_, s', ⟨hput.up hlive, fun σ ρ w hr hor => ?_⟩, h11⟩
  have hx := hor x (by simp [ho, Op.operands])
  have hix := hor ix (by simp [ho, Op.operands])
  have hy := hor y (by simp [ho, Op.operands])
  rw [hm] at hx; rw [hkey] at hix
  simp only [VR] at hx hix
  obtain ⟨r, z, hσ, hx⟩ := hx
  obtain ⟨res, cl, m1, m2, m3⟩ := hr.mapAt hσ hb
  have hlt : r < w.heap.size := (Array.getElem?_eq_some_iff.1 m1).1
  have fin : ∀ (O : Obj), (∃ res' cl', O = .map res' cl' ∧ F2 (ER σ) es₂ res'.toList) → (execOp ρ o).run P w = .ok .skip { w with heap := w.heap.setIfInBounds r O } →
      ∃ τ v' w', Gives ((execOp ρ o).run P w) v' w' ∧ Ext σ s τ s' ∧ HR P base τ s' w' ∧ Below base w w' ∧ VR τ (.tuple #[]) v' := by
    rintro O ⟨res', cl', rfl, hO⟩ hrun
    have hne : ∀ kk, kk ≠ r → (w.heap.setIfInBounds r (.map res' cl'))[kk]? = w.heap[kk]? := fun kk hkk => Array.getElem?_setIfInBounds_ne (Ne.symm hkk)
    refine ⟨σ, undef, _, .inr ⟨hrun, rfl⟩, Ext.put hput hlive hσ, ?_, ?_, by simp only [undef, VR, AR, LR]; exact ⟨_, rfl, rfl⟩⟩
    · refine hr.put (w' := { w with heap := w.heap.setIfInBounds r (.map res' cl') }) hσ hlive hput ⟨res', cl', ?_, hO, m3⟩ (by simpa using hr.size) hne
      simp [hlt]
    · exact ⟨rfl, rfl, rfl, by simp, fun kk hkk => hne kk (by omega)⟩
  rcases h10 σ res.toList 0 (ρ y) m2 hy with ⟨i, old, e, f1, f2, f3, f4⟩ | ⟨f1, f2⟩
  · rw [str_eta] at f1 f3 f4
    refine fin (.map (res.modify i fun e => { e with key := .string key, val := ρ y }) cl) ⟨_, _, rfl, by rw [Array.toList_modify]; exact f4⟩ ?_
    have f2' : res[i]? = some e := by rw [← Array.getElem?_toList]; exact f2
    have hset : ∀ O, (setObj r O).run P w = .ok () { w with heap := w.heap.setIfInBounds r O } := fun O => by simp only [setObj, Sem.run, m1]
    have hstay : (Instr.keyThatStays e.key (.string key)).run P w = .ok (.string key) w := by
      have hkk : (key == key) = true := by rw [ba_beq]; simp
      rw [f3]; simp [Instr.keyThatStays, Instr.sameBits, hkk]
    simp only [Nat.zero_add] at f1
    simp [execOp, ho, hx, hix, Instr.mapUpdate, run_underlying hd, run_getMap m1, run_checkKey hk, run_findKey hk f1, f2', hstay, hset]
  · rw [str_eta] at f1 f2
    refine fin (.map (res.push { key := .string key, val := ρ y, born := cl }) (cl + 1)) ⟨_, _, rfl, by rw [Array.toList_push]; exact f2 cl⟩ ?_
    have hset : ∀ O, (setObj r O).run P w = .ok () { w with heap := w.heap.setIfInBounds r O } := fun O => by simp only [setObj, Sem.run, m1]
    simp [execOp, ho, hx, hix, Instr.mapUpdate, run_underlying hd, run_getMap m1, run_checkKey hk, run_findKey hk f1, hset]
end
end Go.Ev
