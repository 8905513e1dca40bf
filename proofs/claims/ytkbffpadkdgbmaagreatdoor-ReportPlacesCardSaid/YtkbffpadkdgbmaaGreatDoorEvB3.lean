import Derived.Test.YtkbffpadkdgbmaaGreatDoorEvB2
import Derived.Lib.FrozenHead
/- Related lists, related blocks. -/
namespace Go.Ev
open Go Go.RowKit
set_option linter.unusedVariables false
set_option linter.unusedSimpArgs false
set_option linter.deprecated false

mutual
theorem flat_eq {σ : Emb} : ∀ (v v' : Value), flat v = true → VR σ v v' → v' = v
  | .pointer (some a), _, h, _ => no h
  | .slice (some a) n c, _, h, _ => no h
  | .map (some b), _, h, _ => no h
  | .chan (some _), _, h, _ => no h
  | .func fn f c, v', h, hr => by
    obtain ⟨h1, h2⟩ := cond_of (show (bif flatA f then flatA c else false) = true from h)
    simp only [VR] at hr
    obtain ⟨f', c', rfl, hf, hc⟩ := hr
    rw [flatA_eq f f' h1 hf, flatA_eq c c' h2 hc]
  | .iface t v, v', h, hr => by
    simp only [VR] at hr
    obtain ⟨u, rfl, hu⟩ := hr
    rw [flat_eq v u h hu]
  | .agg c, v', h, hr => by
    simp only [VR] at hr
    obtain ⟨u, rfl, hu⟩ := hr
    rw [flatA_eq c u h hu]
  | .tuple c, v', h, hr => by
    simp only [VR] at hr
    obtain ⟨u, rfl, hu⟩ := hr
    rw [flatA_eq c u h hu]
  | .bool b, v', h, hr => by simpa only [VR] using hr
  | .int k n, v', h, hr => by simpa only [VR] using hr
  | .float k n, v', h, hr => by simpa only [VR] using hr
  | .complex k n m, v', h, hr => by simpa only [VR] using hr
  | .string s, v', h, hr => by simpa only [VR] using hr
  | .pointer none, v', h, hr => by simpa only [VR] using hr
  | .slice none n c, v', h, hr => by simpa only [VR] using hr
  | .map none, v', h, hr => by simpa only [VR] using hr
  | .chan none, v', h, hr => by simpa only [VR] using hr
  | .nilFunc, v', h, hr => by simpa only [VR] using hr
  | .nilIface, v', h, hr => by simpa only [VR] using hr
theorem flatA_eq {σ : Emb} : ∀ (a a' : Array Value), flatA a = true → AR σ a a' → a' = a
  | ⟨l⟩, a', h, hr => by
    simp only [AR] at hr
    have := flatL_eq l a'.toList h hr
    exact Array.ext' this
theorem flatL_eq {σ : Emb} : ∀ (l l' : List Value), flatL l = true → LR σ l l' → l' = l
  | [], l', h, hr => by simpa only [LR] using hr
  | v :: t, l', h, hr => by
    obtain ⟨h1, h2⟩ := cond_of (show (bif flat v then flatL t else false) = true from h)
    simp only [LR] at hr
    obtain ⟨v', t', rfl, h3, h4⟩ := hr
    rw [flat_eq v v' h1 h3, flatL_eq t t' h2 h4]
end

/-! Lists, member by member. -/
def F2 {α β : Type} (R : α → β → Prop) : List α → List β → Prop
  | [], l' => l' = []
  | h :: t, l' => ∃ h' t', l' = h' :: t' ∧ R h h' ∧ F2 R t t'
section
variable {α β γ : Type} {R S : α → β → Prop}
theorem LR_F2 {σ : Emb} : ∀ {l l' : List Value}, LR σ l l' ↔ F2 (VR σ) l l'
  | [], l' => by simp only [LR, F2]
  | h :: t, l' => by
    simp only [LR, F2]
    constructor
    · rintro ⟨h', t', e, a, b⟩; exact ⟨h', t', e, a, LR_F2.1 b⟩
    · rintro ⟨h', t', e, a, b⟩; exact ⟨h', t', e, a, LR_F2.2 b⟩
theorem F2.length : ∀ {l : List α} {l' : List β}, F2 R l l' → l'.length = l.length
  | [], _, h => by rw [h]; rfl
  | _ :: _, _, ⟨_, _, e, _, h⟩ => by rw [e]; simp [F2.length h]
theorem F2.mono (hm : ∀ a b, R a b → S a b) : ∀ {l : List α} {l' : List β}, F2 R l l' → F2 S l l'
  | [], _, h => h
  | _ :: _, _, ⟨h', t', e, a, h⟩ => ⟨h', t', e, hm _ _ a, F2.mono hm h⟩
theorem F2.monoM : ∀ {l : List α} {l' : List β}, (∀ a b, a ∈ l → R a b → S a b) → F2 R l l' → F2 S l l'
  | [], _, _, h => h
  | _ :: _, _, hm, ⟨h', t', e, a, h⟩ => ⟨h', t', e, hm _ _ (List.mem_cons_self) a, F2.monoM (fun a b ha => hm a b (List.mem_cons_of_mem _ ha)) h⟩
theorem F2.nil : F2 R [] [] := rfl
theorem F2.cons {a : α} {b : β} {l : List α} {l' : List β} (h : R a b) (t : F2 R l l') : F2 R (a :: l) (b :: l') := ⟨b, l', rfl, h, t⟩
theorem F2.append : ∀ {l : List α} {l' : List β} {m : List α} {m' : List β}, F2 R l l' → F2 R m m' → F2 R (l ++ m) (l' ++ m')
  | [], _, _, _, h, k => by rw [h]; exact k
  | _ :: _, _, _, _, ⟨h', t', e, a, h⟩, k => by rw [e]; exact ⟨h', t' ++ _, rfl, a, F2.append h k⟩
theorem F2.take : ∀ (n : Nat) {l : List α} {l' : List β}, F2 R l l' → F2 R (l.take n) (l'.take n)
  | 0, _, _, _ => by simp [F2]
  | _ + 1, [], _, h => by rw [h]; simp [F2]
  | n + 1, _ :: _, _, ⟨h', t', e, a, h⟩ => by rw [e]; exact ⟨h', t'.take n, rfl, a, F2.take n h⟩
theorem F2.drop : ∀ (n : Nat) {l : List α} {l' : List β}, F2 R l l' → F2 R (l.drop n) (l'.drop n)
  | 0, _, _, h => h
  | _ + 1, [], _, h => by rw [h]; simp [F2]
  | n + 1, _ :: _, _, ⟨_, _, e, _, h⟩ => by rw [e]; exact F2.drop n h
theorem F2.get : ∀ {l : List α} {l' : List β} (n : Nat) {a : α}, F2 R l l' → l[n]? = some a → ∃ b, l'[n]? = some b ∧ R a b
  | [], _, _, _, _, e => by simp at e
  | _ :: _, _, 0, a, ⟨h', t', e', r, _⟩, e => by
    simp at e; subst e; rw [e']; exact ⟨h', rfl, r⟩
  | _ :: _, _, n + 1, a, ⟨h', t', e', _, h⟩, e => by
    rw [e']; simp only [List.getElem?_cons_succ] at e ⊢; exact F2.get n h e
theorem F2.map {δ : Type} {S : γ → δ → Prop} {f : α → γ} {g : β → δ} (hm : ∀ a b, R a b → S (f a) (g b)) : ∀ {l : List α} {l' : List β}, F2 R l l' → F2 S (l.map f) (l'.map g)
  | [], _, h => by rw [h]; rfl
  | _ :: _, _, ⟨h', t', e, a, h⟩ => by rw [e]; exact ⟨g h', t'.map g, rfl, hm _ _ a, F2.map hm h⟩
theorem F2.same {f : γ → α} {g : γ → β} : ∀ {l : List γ}, (∀ c ∈ l, R (f c) (g c)) → F2 R (l.map f) (l.map g)
  | [], _ => rfl
  | c :: l, h => ⟨g c, l.map g, rfl, h c List.mem_cons_self, F2.same fun c hc => h c (List.mem_cons_of_mem _ hc)⟩
theorem F2.refl {R : α → α → Prop} : ∀ {l : List α}, (∀ c ∈ l, R c c) → F2 R l l
  | [], _ => rfl
  | c :: l, h => ⟨c, l, rfl, h c List.mem_cons_self, F2.refl fun c hc => h c (List.mem_cons_of_mem _ hc)⟩
theorem F2.eq : ∀ {l l' : List α}, F2 (fun a b => b = a) l l' → l' = l
  | [], _, h => h
  | _ :: _, _, ⟨_, _, e, a, h⟩ => by rw [e, a, F2.eq h]
theorem F2.isNil {l : List α} {l' : List β} (h : F2 R l l') : l' = [] ↔ l = [] := by
  have := h.length
  constructor
  · rintro rfl; exact List.length_eq_zero_iff.1 this.symm
  · rintro rfl; exact h
end

/-- A cell: what no one may read says nothing. -/
def CR (σ : Emb) (v v' : Value) : Prop := cellOk v = true → VR σ v v'
theorem CR.mono {σ τ : Emb} (hl : Emb.le σ τ) {v v' : Value} (h : CR σ v v') : CR τ v v' := fun e => VR.mono hl _ _ (h e)
theorem VR.one {σ : Emb} {v v' : Value} (h : VR σ v v') (hc : cellOk v = true) : v'.oneCell' = true := by
  cases v <;> first
    | exact no hc
    | (simp only [VR] at h; subst h; rfl)
    | (rename_i a; cases a <;> simp only [VR] at h <;> first
        | (subst h; rfl)
        | (obtain ⟨_, _, _, _, rfl⟩ := h; rfl)
        | (obtain ⟨_, _, _, rfl⟩ := h; rfl)
        | exact h.elim)
    | (rename_i a _ _; cases a <;> simp only [VR] at h <;> first
        | (subst h; rfl)
        | (obtain ⟨_, _, _, _, rfl⟩ := h; rfl))
    | (simp only [VR] at h; obtain ⟨_, _, rfl, _⟩ := h; rfl)
    | (simp only [VR] at h; obtain ⟨_, rfl, _⟩ := h; rfl)
/-- The cells of related values. -/
theorem VR.cells {σ : Emb} {v v' : Value} (h : VR σ v v') : F2 (VR σ) v.cells.toList v'.cells.toList := by
  by_cases hc : ∃ c, v = .agg c
  · obtain ⟨c, rfl⟩ := hc
    simp only [VR] at h
    obtain ⟨c', rfl, h⟩ := h
    obtain ⟨l⟩ := c
    simp only [AR] at h
    exact LR_F2.1 h
  · have e1 : v.cells = #[v] := by cases v <;> first | rfl | exact absurd ⟨_, rfl⟩ hc
    have e2 : v'.cells = #[v'] := by
      cases v' <;> first | rfl | skip
      exfalso
      cases v <;> first
        | exact hc ⟨_, rfl⟩
        | (simp only [VR] at h; cases h; done)
        | (rename_i a; cases a <;> simp [VR] at h; done)
        | (rename_i a _ _; cases a <;> simp [VR] at h; done)
        | (simp only [VR] at h; obtain ⟨_, _, e, _⟩ := h; cases e; done)
        | (simp only [VR] at h; obtain ⟨_, e, _⟩ := h; cases e; done)
    rw [e1, e2]
    exact ⟨v', [], rfl, h, rfl⟩

def ER (σ : Emb) (p : Value × Value) (e : MapEntry) : Prop := (∃ k, p.1 = .string k ∧ e.key = .string k) ∧ VR σ p.2 e.val

/-- A frozen range that hits none of n cells. -/
def thawed (fz : Nat × Nat) (n : Nat) : Prop := fz.1 = fz.2 ∨ n ≤ fz.1

/-- What a block of the evaluator's says of the block in truth. -/
def BR (P : Program) (base : Nat) (σ : Emb) (r x : Nat) (heap : Array Obj) : Blk → Prop
  | .dead => True
  | .cells c e q => ∃ rc e' fz, heap[r]? = some (.cells rc e' fz) ∧ F2 (CR σ) c (rc.toList.take c.length) ∧ (q = .roomy ∨ x = 0) ∧ (q.own → e' = e ∧ base ≤ r ∧ thawed fz rc.size ∧ rc.size = c.length + x * P.cellsOf e)
  | .map es => ∃ res cl, heap[r]? = some (.map res cl) ∧ F2 (ER σ) es res.toList ∧ base ≤ r

theorem BR.own {P : Program} {base : Nat} {σ : Emb} {r x : Nat} {heap : Array Obj} {c : List Value} {e : TypeId} {q : Kd} (h : BR P base σ r x heap (.cells c e q)) (hq : q.own) :
    ∃ rc fz, heap[r]? = some (.cells rc e fz) ∧ F2 (CR σ) c (rc.toList.take c.length) ∧ rc.size = c.length + x * P.cellsOf e ∧ (q = .roomy ∨ x = 0) ∧ (q.own → base ≤ r ∧ thawed fz rc.size) := by
  obtain ⟨rc, e', fz, h1, h2, h3, h4⟩ := h
  obtain ⟨rfl, h5, h6, h7⟩ := h4 hq
  exact ⟨rc, fz, h1, h2, h7, h3, fun _ => ⟨h5, h6⟩⟩
theorem BR.mk {P : Program} {base : Nat} {σ : Emb} {r x : Nat} {heap : Array Obj} {c : List Value} {e : TypeId} {q : Kd}
    (h : ∃ rc fz, heap[r]? = some (.cells rc e fz) ∧ F2 (CR σ) c (rc.toList.take c.length) ∧ rc.size = c.length + x * P.cellsOf e ∧ (q = .roomy ∨ x = 0) ∧ (q.own → base ≤ r ∧ thawed fz rc.size)) : BR P base σ r x heap (.cells c e q) := by
  obtain ⟨rc, fz, h1, h2, h3, h4, h5⟩ := h
  exact ⟨rc, e, fz, h1, h2, h4, fun hq => ⟨rfl, (h5 hq).1, (h5 hq).2, h3⟩⟩

structure HR (P : Program) (base : Nat) (σ : Emb) (s : St) (w : World) : Prop where
  size : base ≤ w.heap.size
  dom : ∀ b r x, σ b = some (r, x) → b < s.next
  blk : ∀ b r x, σ b = some (r, x) → BR P base σ r x w.heap (s.blk b)
  inj : ∀ b c r x y, σ b = some (r, x) → σ c = some (r, y) → s.blk b ≠ .dead → s.blk c ≠ .dead → b = c

theorem BR.mono {P : Program} {base : Nat} {σ τ : Emb} {r x : Nat} {heap heap' : Array Obj} (hl : Emb.le σ τ) (hh : heap'[r]? = heap[r]?) :
    ∀ {B : Blk}, BR P base σ r x heap B → BR P base τ r x heap' B
  | .dead, _ => trivial
  | .cells _ _ _, ⟨rc, e', fz, h1, h2, h3⟩ => ⟨rc, e', fz, hh.trans h1, h2.mono (fun _ _ => CR.mono hl), h3⟩
  | .map _, ⟨res, cl, h1, h2, h3⟩ => ⟨res, cl, hh.trans h1, h2.mono (fun _ _ h => ⟨h.1, VR.mono hl _ _ h.2⟩), h3⟩
theorem BR.lt {P : Program} {base : Nat} {σ : Emb} {r x : Nat} {heap : Array Obj} : ∀ {B : Blk}, BR P base σ r x heap B → B ≠ .dead → r < heap.size
  | .dead, _, h => absurd rfl h
  | .cells _ _ _, ⟨_, _, _, h, _⟩, _ => (Array.getElem?_eq_some_iff.1 h).1
  | .map _, ⟨_, _, h, _⟩, _ => (Array.getElem?_eq_some_iff.1 h).1

section
variable {P : Program} {base : Nat} {σ : Emb} {s t : St} {w w' : World}
/-- The evaluator's state may know more blocks: those are not laid yet. -/
theorem HR.more (h : HR P base σ s w) (hn : s.next ≤ t.next) (hb : ∀ b, (∃ p, σ b = some p) → t.blk b = s.blk b) : HR P base σ t w where
  size := h.size
  dom := fun b r x e => Nat.lt_of_lt_of_le (h.dom b r x e) hn
  blk := fun b r x e => by rw [hb b ⟨_, e⟩]; exact h.blk b r x e
  inj := fun b c r x y e f => by rw [hb b ⟨_, e⟩, hb c ⟨_, f⟩]; exact h.inj b c r x y e f
theorem HR.new (h : HR P base σ s w) {X : Blk} (hn : s.New X t) : HR P base σ t w :=
  h.more (by rw [hn.next]; omega) fun b ⟨p, e⟩ => by
    rw [hn.blk, if_neg]
    have := h.dom b p.1 p.2 e
    omega
/-- A write that leaves a heap's every other block: the block b is anew. -/
theorem HR.put (h : HR P base σ s w) {b r x : Nat} {X : Blk} (hσ : σ b = some (r, x)) (hl : s.blk b ≠ .dead) (hp : s.Put b X t) (hX : BR P base σ r x w'.heap X)
    (hs : base ≤ w'.heap.size) (hw : ∀ k, k ≠ r → w'.heap[k]? = w.heap[k]?) : HR P base σ t w' where
  size := hs
  dom := fun c r x e => by rw [hp.next]; exact h.dom c r x e
  blk := fun c r' x' e => by
    rw [hp.blk]
    by_cases hc : c = b
    · subst hc
      rw [hσ] at e; cases e
      simpa using hX
    · rw [if_neg hc]
      by_cases hd : s.blk c = .dead
      · rw [hd]; trivial
      · refine BR.mono (Emb.le.refl σ) (hw r' fun e' => ?_) (h.blk c r' x' e)
        subst e'
        exact hc (h.inj c b _ _ _ e hσ hd hl)
  inj := fun c d r' x' y' e f hc hd => by
    rw [hp.blk] at hc hd
    have live : ∀ z, (if z = b then X else s.blk z) ≠ .dead → s.blk z ≠ .dead := fun z hz => by
      by_cases hzb : z = b
      · subst hzb; exact hl
      · rwa [if_neg hzb] at hz
    exact h.inj c d r' x' y' e f (live c hc) (live d hd)
/-- The same blocks in a world whose blocks are the same where it matters. -/
theorem HR.world (h : HR P base σ s w) (hs : base ≤ w'.heap.size) (hw : ∀ k, k < w.heap.size → w'.heap[k]? = w.heap[k]?) : HR P base σ s w' where
  size := hs
  dom := h.dom
  blk := fun b r x e => by
    by_cases hd : s.blk b = .dead
    · rw [hd]; trivial
    · exact BR.mono (Emb.le.refl σ) (hw r (BR.lt (h.blk b r x e) hd)) (h.blk b r x e)
  inj := h.inj
/-- One more block is laid: b, that lay open, at r, where nothing that is told lay. -/
def Emb.put (σ : Emb) (b : Nat) (p : Nat × Nat) : Emb := fun c => if c = b then some p else σ c
theorem Emb.le_put {b : Nat} {p : Nat × Nat} (h : σ b = none) : Emb.le σ (σ.put b p) := fun c q e => by
  unfold Emb.put
  rw [if_neg]
  · exact e
  · intro hc; rw [hc, h] at e; cases e
theorem Emb.put_self {b : Nat} {p : Nat × Nat} : (σ.put b p) b = some p := if_pos rfl
theorem Emb.put_ne {b c : Nat} {p : Nat × Nat} (h : c ≠ b) : (σ.put b p) c = σ c := if_neg h
theorem HR.lay (h : HR P base σ t w) {b r x : Nat} (ho : σ b = none) (hb : b < t.next) (hX : BR P base (σ.put b (r, x)) r x w'.heap (t.blk b))
    (hs : base ≤ w'.heap.size) (hw : ∀ k, k < w.heap.size → w'.heap[k]? = w.heap[k]?) (hr : ∀ c x', σ c = some (r, x') → t.blk c = .dead) : HR P base (σ.put b (r, x)) t w' where
  size := hs
  dom := fun c r' x' e => by
    by_cases hc : c = b
    · subst hc; exact hb
    · rw [Emb.put_ne hc] at e; exact h.dom c r' x' e
  blk := fun c r' x' e => by
    by_cases hc : c = b
    · subst hc; rw [Emb.put_self] at e; cases e; exact hX
    · rw [Emb.put_ne hc] at e
      by_cases hd : t.blk c = .dead
      · rw [hd]; trivial
      · exact BR.mono (Emb.le_put ho) (hw r' (BR.lt (h.blk c r' x' e) hd)) (h.blk c r' x' e)
  inj := fun c d r' x' y' e f hc hd => by
    by_cases h1 : c = b
    · by_cases h2 : d = b
      · rw [h1, h2]
      · subst h1
        rw [Emb.put_self] at e; cases e
        rw [Emb.put_ne h2] at f
        exact absurd (hr d y' f) hd
    · rw [Emb.put_ne h1] at e
      by_cases h2 : d = b
      · subst h2
        rw [Emb.put_self] at f; cases f
        exact absurd (hr c x' e) hc
      · rw [Emb.put_ne h2] at f
        exact h.inj c d r' x' y' e f hc hd
end
end Go.Ev
