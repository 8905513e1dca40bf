import Derived.Test.YtkbffpadkdgbmaaGreatDoorEvB3
/- Reading, writing, laying: what the model does where the evaluator does it. -/
namespace Go.Ev
open Go Go.RowKit
set_option linter.unusedVariables false
set_option linter.unusedSimpArgs false
set_option linter.deprecated false

section
variable {P : Program} {base : Nat} {σ : Emb} {s t : St} {w : World}

theorem addr_add (r o n : Nat) : (⟨r, o, none⟩ : Addr).add n = ⟨r, o + n, none⟩ := by
  unfold Addr.add
  split
  · rename_i h; subst h; rfl
  · rfl

/-- Cells that are told are there. -/
theorem HR.cells (h : HR P base σ t w) {b r x o n : Nat} {c : List Value} {e : TypeId} {q : Kd} (hσ : σ b = some (r, x)) (hb : t.blk b = .cells c e q)
    (hn : n ≤ (c.drop o).length) : ∃ l', F2 (CR σ) ((c.drop o).take n) l' ∧ l'.length = n ∧ ∀ j v, l'[j]? = some v → w.cell? ⟨r, o + j, none⟩ = some v := by
  have hB := h.blk b r x hσ
  rw [hb] at hB
  obtain ⟨rc, e', fz, h1, h2, _, _⟩ := hB
  have h3 : c.length ≤ rc.size := by have := h2.length; simp only [List.length_take, Array.length_toList] at this; omega
  refine ⟨(rc.toList.take c.length).drop o |>.take n, (h2.drop o).take n, ?_, ?_⟩
  · simp only [List.length_drop] at hn
    simp only [List.length_take, List.length_drop, Array.length_toList]
    omega
  · intro j v hj
    simp only [List.length_drop] at hn
    have hlt : j < n := by
      have := (List.getElem?_eq_some_iff.1 hj).1
      simp only [List.length_take, List.length_drop, Array.length_toList] at this
      omega
    simp only [World.cell?, h1]
    rw [List.getElem?_take_of_lt hlt, List.getElem?_drop, List.getElem?_take_of_lt (by omega)] at hj
    simpa using hj

theorem HR.vals (h : HR P base σ t w) {b r x o n : Nat} {c : List Value} {e : TypeId} {q : Kd} (hσ : σ b = some (r, x)) (hb : t.blk b = .cells c e q)
    (hn : n ≤ (c.drop o).length) (hok : ∀ v ∈ (c.drop o).take n, cellOk v = true) :
    ∃ l', F2 (VR σ) ((c.drop o).take n) l' ∧ l'.length = n ∧ ∀ j v, l'[j]? = some v → w.cell? ⟨r, o + j, none⟩ = some v := by
  obtain ⟨l', h1, h2⟩ := h.cells hσ hb hn
  exact ⟨l', h1.monoM (fun a b ha hc => hc (hok a ha)), h2⟩

theorem run_cells {r o n : Nat} {l' : List Value} (hl : l'.length = n) (hc : ∀ j v, l'[j]? = some v → w.cell? ⟨r, o + j, none⟩ = some v) :
    (loadCells ⟨r, o, none⟩ n).run P w = .ok l'.toArray w := by
  subst hl
  exact run_loadCells_list (P := P) w ⟨r, o, none⟩ l' fun j v hj => by rw [addr_add]; exact hc j v hj

/-- Stores into a row whose frozen range lies behind its end. -/
theorem run_storeThawed (P : Program) (g o : Nat) (t : TypeId) (fz : Nat × Nat) : ∀ (vs : List Value) (i : Nat) (cur : Array Value) (w : World),
    w.heap[g]? = some (.cells cur t fz) → thawed fz cur.size → o + i + vs.length ≤ cur.size → (∀ v ∈ vs, v.oneCell' = true) →
    (storeCells ⟨g, o, none⟩ vs i).run P w = .ok () (w.setRow g (cur.toList.take (o + i) ++ vs ++ cur.toList.drop (o + i + vs.length)).toArray)
  | [], i, cur, w, hg, _, _, _ => by
    simp only [storeCells, List.append_nil, List.length_nil, Nat.add_zero, List.take_append_drop, Array.toArray_toList]
    rw [setRow_self w g cur t fz hg]
    rfl
  | v :: rest, i, cur, w, hg, hfz, hl, h1 => by
    have hi : o + i < cur.size := by simp at hl; omega
    have hcell : w.cell? ⟨g, o + i, none⟩ = some cur[o + i] := by simp [World.cell?, hg, hi]
    have hfro : w.frozen? ⟨g, o + i, none⟩ = false := by
      obtain ⟨lo, hi'⟩ := fz
      simp only [thawed] at hfz
      simp only [World.frozen?, hg, Bool.and_eq_false_iff, decide_eq_false_iff_not]
      omega
    have hst : (store ((⟨g, o, none⟩ : Addr).add i) v).run P w = .ok () (w.setRow g (cur.setIfInBounds (o + i) v)) := by
      rw [addr_add, run_store P w _ v _ (h1 v (by simp)), hcell]
      simp [hfro, setCell_eq_setRow w g (o + i) cur t fz v hg]
    have ih := run_storeThawed P g o t fz rest (i + 1) (cur.setIfInBounds (o + i) v) (w.setRow g (cur.setIfInBounds (o + i) v)) (setRow_heap w g cur _ t _ hg)
      (by simpa using hfz) (by simp at hl ⊢; omega) (fun x hx => h1 x (by simp [hx]))
    simp only [storeCells, Sem.run_bind, hst, Result.andThen_ok, ih, setRow_setRow]
    congr 3
    have e := list_seg_step cur.toList (o + i) v rest (by simp at hl ⊢; omega)
    simpa [Array.toList_setIfInBounds, Nat.add_assoc] using e

theorem setRow_ne (w : World) (g k : Nat) (cs : Array Value) (hk : k ≠ g) : (w.setRow g cs).heap[k]? = w.heap[k]? := by
  unfold World.setRow
  simp only [Array.getElem?_modify]
  rw [if_neg (Ne.symm hk)]
theorem setRow_size (w : World) (g : Nat) (cs : Array Value) : (w.setRow g cs).heap.size = w.heap.size := by
  unfold World.setRow; simp

theorem below_setRow {g : Nat} {cs : Array Value} (hg : base ≤ g) : Below base w (w.setRow g cs) :=
  ⟨rfl, rfl, rfl, Nat.le_of_eq (setRow_size w g cs).symm, fun k hk => setRow_ne w g k cs (by omega)⟩

theorem HR.base_le (h : HR P base σ t w) {b r x : Nat} {c : List Value} {e : TypeId} {q : Kd} (hσ : σ b = some (r, x)) (hb : t.blk b = .cells c e q) (hq : q.own) : base ≤ r := by
  have hB := h.blk b r x hσ
  rw [hb] at hB
  obtain ⟨_, _, _, _, _, _, h6⟩ := hB
  exact (h6 hq).2.1

theorem over_take {α : Type} (l vs : List α) (o n : Nat) (h : o + vs.length ≤ n) (hn : n ≤ l.length) :
    (l.take o ++ vs ++ l.drop (o + vs.length)).take n = (l.take n).take o ++ vs ++ (l.take n).drop (o + vs.length) := by
  have ha : (l.take n).length = n := by simp only [List.length_take]; omega
  have e1 : l.take o = (l.take n).take o := by rw [List.take_take, Nat.min_eq_left (by omega)]
  have e2 : l.drop (o + vs.length) = (l.take n).drop (o + vs.length) ++ l.drop n := by
    conv => lhs; rw [← List.take_append_drop n l]
    rw [List.drop_append_of_le_length (by omega)]
  rw [e1, e2, ← List.append_assoc]
  exact List.take_left' (by simp only [List.length_append, List.length_take, List.length_drop]; omega)

/-- A write of related values into a block of one's own. -/
theorem HR.write (h : HR P base σ s w) {b r x o : Nat} {c vs vs' : List Value} {e : TypeId} {q : Kd} (hσ : σ b = some (r, x)) (hb : s.blk b = .cells c e q) (hq : q.own)
    (hok : ∀ v ∈ vs, cellOk v = true) (hl : o + vs.length ≤ c.length) (hv : F2 (VR σ) vs vs') (hp : s.Put b (.cells (c.take o ++ vs ++ c.drop (o + vs.length)) e q) t) :
    ∃ w', (storeCells ⟨r, o, none⟩ vs').run P w = .ok () w' ∧ HR P base σ t w' ∧ Below base w w' := by
  have hB := h.blk b r x hσ
  rw [hb] at hB
  obtain ⟨rc, fz, h1, h2, h3, h4, h5⟩ := hB.own hq
  have hlen := hv.length
  have hbase := (h5 hq).1
  have hone : ∀ v ∈ vs', v.oneCell' = true := by
    have : ∀ {l l' : List Value}, F2 (VR σ) l l' → (∀ v ∈ l, cellOk v = true) → ∀ v ∈ l', v.oneCell' = true := by
      intro l
      induction l with
      | nil => intro l' h _ v hv; rw [h] at hv; cases hv
      | cons a l ih =>
        rintro l' ⟨a', t', rfl, ha, ht⟩ hk v hv
        cases hv with
        | head => exact ha.one (hk a List.mem_cons_self)
        | tail _ hv => exact ih ht (fun v hv => hk v (List.mem_cons_of_mem _ hv)) v hv
    exact this hv hok
  have hrun := run_storeThawed P r o e fz vs' 0 rc w h1 (h5 hq).2 (by omega) hone
  simp only [Nat.add_zero] at hrun
  refine ⟨_, hrun, ?_, below_setRow hbase⟩
  refine h.put hσ (by rw [hb]; exact fun e => by cases e) hp ?_ (by rw [setRow_size]; exact h.size) (fun k hk => setRow_ne w r k _ hk)
  refine BR.mk ⟨_, fz, setRow_heap w r rc _ e fz h1, ?_, ?_, h4, fun hq' => ⟨hbase, ?_⟩⟩
  · have hcl : (c.take o ++ vs ++ c.drop (o + vs.length)).length = c.length := by
      simp only [List.length_append, List.length_take, List.length_drop]; omega
    rw [hcl]
    have hrl : rc.toList.length = rc.size := Array.length_toList
    have e1 : (rc.toList.take o ++ vs' ++ rc.toList.drop (o + vs'.length)).take c.length =
        (rc.toList.take c.length).take o ++ vs' ++ (rc.toList.take c.length).drop (o + vs.length) := by
      rw [← hlen]
      exact over_take _ _ _ _ (by omega) (by omega)
    show F2 (CR σ) _ ((rc.toList.take o ++ vs' ++ rc.toList.drop (o + vs'.length)).take c.length)
    rw [e1]
    exact ((h2.take o).append (F2.mono (S := CR σ) (fun _ _ hr _ => hr) hv)).append (h2.drop _)
  · have hcl : (c.take o ++ vs ++ c.drop (o + vs.length)).length = c.length := by
      simp only [List.length_append, List.length_take, List.length_drop]; omega
    rw [hcl]
    simp only [List.size_toArray, List.length_append, List.length_take, List.length_drop, Array.length_toList]
    omega
  · have e2 : (rc.toList.take o ++ vs' ++ rc.toList.drop (o + vs'.length)).toArray.size = rc.size := by
      simp only [List.size_toArray, List.length_append, List.length_take, List.length_drop, Array.length_toList]
      omega
    rw [e2]
    exact (h5 hq).2

theorem below_alloc (h : base ≤ w.heap.size) (o : Obj) : Below base w (w.alloc o) := (Below.refl base w).alloc h o
theorem alloc_size (w : World) (o : Obj) : (w.alloc o).heap.size = w.heap.size + 1 := Array.size_push ..
theorem alloc_self (w : World) (o : Obj) : (w.alloc o).heap[w.heap.size]? = some o := by
  show (w.heap.push o)[w.heap.size]? = some o
  simp

/-- A new row is laid: its block lay open till now. -/
theorem HR.layRow (h : HR P base σ t w) {b x : Nat} {c : List Value} {e : TypeId} {q : Kd} {rc : Array Value} {fz : Nat × Nat} (ho : σ b = none) (hb : b < t.next) (hB : t.blk b = .cells c e q)
    (hc : F2 (CR σ) c (rc.toList.take c.length)) (hz : rc.size = c.length + x * P.cellsOf e) (hx : q = .roomy ∨ x = 0) (hf : thawed fz rc.size) :
    HR P base (σ.put b (w.heap.size, x)) t (w.alloc (.cells rc e fz)) := by
  refine h.lay ho hb ?_ (by rw [alloc_size]; have := h.size; omega) (fun k hk => Below.heap_alloc w _ k hk) ?_
  · rw [hB]
    exact BR.mk ⟨rc, fz, alloc_self w _, hc.mono fun _ _ => CR.mono (Emb.le_put ho), hz, hx, fun _ => ⟨h.size, hf⟩⟩
  · intro d x' e'
    by_cases hd : t.blk d = .dead
    · exact hd
    · exact absurd (BR.lt (h.blk d _ _ e') hd) (by omega)
theorem HR.layMap (h : HR P base σ t w) {b : Nat} (ho : σ b = none) (hb : b < t.next) (hB : t.blk b = .map []) :
    HR P base (σ.put b (w.heap.size, 0)) t (w.alloc (.map #[] 0)) := by
  refine h.lay ho hb ?_ (by rw [alloc_size]; have := h.size; omega) (fun k hk => Below.heap_alloc w _ k hk) ?_
  · rw [hB]
    exact ⟨#[], 0, alloc_self w _, rfl, h.size⟩
  · intro d x' e'
    by_cases hd : t.blk d = .dead
    · exact hd
    · exact absurd (BR.lt (h.blk d _ _ e') hd) (by omega)
end
end Go.Ev
