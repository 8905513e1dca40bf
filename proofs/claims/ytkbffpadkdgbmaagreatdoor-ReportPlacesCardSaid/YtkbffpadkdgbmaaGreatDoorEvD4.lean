import Derived.Test.YtkbffpadkdgbmaaGreatDoorEvD3
/- Regions whose order is drawn: the proof. -/
namespace Go.Ev
open Go Go.RowKit Go.Lib
set_option linter.unusedVariables false
set_option linter.unusedSimpArgs false
set_option linter.deprecated false

/-- An entry is its operation's. -/
structure EF (ops : Array Oper) (e : Ent) : Prop where
  op : ops[e.i]? = some e.o
  g : e.g = guardTmp ops.toList e.o.guard
  deps : ∀ d, d ∈ e.deps ↔ ∃ ed ∈ e.o.after, Region.binds .any ed = true ∧ ed.on = d
  rd : ∀ t, Operand.tmp t ∈ e.o.op.operands → t ∈ e.rd
  grd : ∀ d w, e.g = some (d, w) → d ∈ e.rd
theorem tmpsOf_mem {t : Nat} : ∀ {l : List Operand}, Operand.tmp t ∈ l → t ∈ tmpsOf l
  | x :: l, h => by
    cases h with
    | head => exact List.mem_cons_self
    | tail _ h =>
      have := tmpsOf_mem h
      cases x <;> first | exact List.mem_cons_of_mem _ this | exact this
theorem entOf_EF {ops : Array Oper} {i : Nat} {o : Oper} (h : ops[i]? = some o) : EF ops (entOf ops.toList i o) where
  op := h
  g := rfl
  deps := fun d => by
    simp only [entOf, List.mem_map, List.mem_filter]
    constructor
    · rintro ⟨ed, ⟨h1, h2⟩, h3⟩; exact ⟨ed, by simpa using h1, h2, h3⟩
    · rintro ⟨ed, h1, h2, h3⟩; exact ⟨ed, ⟨by simpa using h1, h2⟩, h3⟩
  rd := fun t ht => by
    have := tmpsOf_mem (l := o.op.operands.toList) (Array.mem_toList_iff.2 (show Operand.tmp t ∈ o.op.operands from ht))
    show t ∈ (match guardTmp ops.toList o.guard with | some (d, _) => d :: tmpsOf o.op.operands.toList | none => tmpsOf o.op.operands.toList)
    cases guardTmp ops.toList o.guard with
    | none => exact this
    | some g => exact List.mem_cons_of_mem _ this
  grd := fun d w hd => by
    have hd : guardTmp ops.toList o.guard = some (d, w) := hd
    show d ∈ (match guardTmp ops.toList o.guard with | some (d, _) => d :: tmpsOf o.op.operands.toList | none => tmpsOf o.op.operands.toList)
    rw [hd]
    exact List.mem_cons_self
theorem entsFrom_spec {ops : List Oper} : ∀ (l : List Oper) (i : Nat), (∀ e ∈ entsFrom ops i l, ∃ k o, l[k]? = some o ∧ e = entOf ops (i + k) o) ∧ (∀ k o, l[k]? = some o → entOf ops (i + k) o ∈ entsFrom ops i l)
  | [], i => ⟨fun e he => (by cases he), fun k o h => by simp at h⟩
  | o :: l, i => by
    obtain ⟨h1, h2⟩ := entsFrom_spec l (i + 1)
    constructor
    · intro e he
      cases he with
      | head => exact ⟨0, o, rfl, rfl⟩
      | tail _ he =>
        obtain ⟨k, o', h3, h4⟩ := h1 e he
        exact ⟨k + 1, o', by simpa using h3, by rw [h4]; congr 1; omega⟩
    · intro k o' h
      cases k with
      | zero => simp at h; subst h; exact List.mem_cons_self
      | succ k =>
        have := h2 k o' (by simpa using h)
        rw [show i + (k + 1) = i + 1 + k by omega]
        exact List.mem_cons_of_mem _ this

section
variable {P : Program} {base : Nat} {G : List Nat} {ops : Array Oper} {tr : List Stp} {a0 aN : Fr} {s0 sN : St} {σ0 : Emb} {w0 : World}
/-- x comes ahead of y. -/
structure Ahead (x y : Stp) : Prop where
  rd1 : isDst x.e.o y.e.rd = true → y.anc.testBit x.e.i = true
  rd2 : isDst y.e.o x.e.rd = true → y.anc.testBit x.e.i = true
  val : ∀ d, x.e.o.dst = some d → y.a.at d = x.v
  ne : ∀ d, y.e.o.dst = some d → x.e.o.dst ≠ some d
  next : x.s1.next ≤ y.s.next
theorem ahead_of (hg : Good P base G [] a0 s0 tr aN sN) {l1 l2 : List Stp} {x y : Stp} (ht : tr = l1 ++ y :: l2) (hx : x ∈ l1) : Ahead x y := by
  subst ht
  obtain ⟨h1, h2, h3, h4⟩ := good_at hg
  have hx' : x ∈ l1.reverse := by simpa using hx
  refine ⟨h1.rd1 x hx', h1.rd2 x hx', fun d hd => h2.val x hx' d hd, fun d hd => h1.ne x hx' d hd, ?_⟩
  obtain ⟨m1, m2, rfl⟩ := List.append_of_mem hx
  obtain ⟨_, _, h5, _⟩ := good_at h4
  exact (good_up h5).1
theorem pair_of (hg : Good P base G [] a0 s0 tr aN sN) {x y : Stp} (hx : x ∈ tr) (hy : y ∈ tr) (hne : x.e.i ≠ y.e.i) : Ahead x y ∨ Ahead y x := by
  obtain ⟨l1, l2, ht⟩ := List.append_of_mem hx
  rw [ht] at hy
  rcases List.mem_append.1 hy with hy | hy
  · exact .inr (ahead_of hg ht hy)
  · cases hy with
    | head => exact absurd rfl hne
    | tail _ hy =>
      obtain ⟨m1, m2, hm⟩ := List.append_of_mem hy
      exact .inl (ahead_of (l1 := l1 ++ x :: m1) (l2 := m2) hg (by rw [ht, hm]; simp) (by simp))
theorem good_keep : ∀ {l : List Stp} {done : List Stp} {a a' : Fr} {s s' : St} {t : Nat}, Good P base G done a s l a' s' → (∀ x ∈ l, x.e.o.dst ≠ some t) → a'.at t = a.at t
  | [], _, _, _, _, _, _, ⟨h1, _⟩, _ => by rw [h1]
  | x :: l, _, _, _, _, _, t, ⟨h1, _, h3, h4⟩, hn => by
    rw [good_keep h4 fun y hy => hn y (List.mem_cons_of_mem _ hy), h3.put, if_neg (hn x List.mem_cons_self), h1]

abbrev Un (listed : Array Bool) (x : Stp) : Prop := listed.getD x.e.i false = false
/-- The frame's slots, some operations being listed. -/
def Cur (tr : List Stp) (aN : Fr) (σ : Emb) (listed : Array Bool) (A : Act) : Prop :=
  ∃ cur : Nat → Value, (∀ t, VR σ (cur t) (A.tmps.getD t undef)) ∧
    (∀ x ∈ tr, Un listed x → ∀ t ∈ x.e.rd, (∀ y ∈ tr, Un listed y → y.e.o.dst = some t → x.anc.testBit y.e.i = false) → cur t = x.a.at t) ∧
    (∀ t, (∀ y ∈ tr, Un listed y → y.e.o.dst ≠ some t) → cur t = aN.at t)
theorem getD_set {listed : Array Bool} {i j : Nat} (hi : i < listed.size) : (listed.setIfInBounds i true).getD j false = (decide (j = i) || listed.getD j false) := by
  by_cases hj : j = i
  · subst hj; simp [hi]
  · simp [hj, Array.getElem?_setIfInBounds_ne (Ne.symm hj)]
theorem Cur.step (hg : Good P base G [] a0 s0 tr aN sN) {σ τ : Emb} {listed : Array Bool} {A A' : Act} {x : Stp} {v' : Value} (h : Cur tr aN σ listed A) (hx : x ∈ tr) (hu : Un listed x) (hsz : x.e.i < listed.size)
    (hanc : ∀ j, x.anc.testBit j = true → listed.getD j false = true) (hl : Emb.le σ τ) (hv : VR τ x.v v') (hA : A'.tmps = A.tmps) (hlt : ∀ d, x.e.o.dst = some d → d < A.tmps.size) :
    Cur tr aN τ (listed.setIfInBounds x.e.i true) (A'.put x.e.o.dst v') := by
  obtain ⟨cur, h1, h2, h3⟩ := h
  have un' : ∀ y, Un (listed.setIfInBounds x.e.i true) y ↔ (y.e.i ≠ x.e.i ∧ Un listed y) := fun y => by
    simp only [Un]; rw [getD_set hsz]; simp
  refine ⟨fun t => if x.e.o.dst = some t then x.v else cur t, fun t => ?_, fun y hy hyu t ht hp => ?_, fun t ht => ?_⟩
  · show VR τ (if x.e.o.dst = some t then x.v else cur t) _
    rw [getD_put (fun i e => by rw [hA]; exact hlt i e), hA]
    by_cases hd : x.e.o.dst = some t
    · rw [if_pos hd, if_pos hd]; exact hv
    · rw [if_neg hd, if_neg hd]; exact VR.mono hl _ _ (h1 t)
  · obtain ⟨hne, hyu'⟩ := (un' y).1 hyu
    by_cases hd : x.e.o.dst = some t
    · show (if x.e.o.dst = some t then x.v else cur t) = _
      rw [if_pos hd]
      rcases pair_of hg hx hy (Ne.symm hne) with hb | hb
      · exact (hb.val t hd).symm
      · have := hanc _ (hb.rd2 (isDst_of hd ht))
        have hyf : listed.getD y.e.i false = false := hyu'
        rw [this] at hyf; cases hyf
    · show (if x.e.o.dst = some t then x.v else cur t) = _
      rw [if_neg hd]
      refine h2 y hy hyu' t ht fun z hz hzu hzd => ?_
      by_cases hzx : z.e.i = x.e.i
      · -- the same operation
        exfalso
        rcases Classical.em (z = x) with rfl | hne2
        · exact hd hzd
        · obtain ⟨l1, l2, hsp⟩ := List.append_of_mem hx
          have hz2 := hz
          rw [hsp] at hz2
          rcases List.mem_append.1 hz2 with hz3 | hz3
          · subst hsp
            obtain ⟨q1, _⟩ := good_at hg
            exact q1.fresh z (by simpa using hz3) hzx
          · cases hz3 with
            | head => exact hne2 rfl
            | tail _ hz3 =>
              obtain ⟨m1, m2, hm⟩ := List.append_of_mem hz3
              have : tr = (l1 ++ x :: m1) ++ z :: m2 := by rw [hsp, hm]; simp
              rw [this] at hg
              obtain ⟨q1, _⟩ := good_at hg
              exact q1.fresh x (by simp) hzx.symm
      · exact hp z hz ((un' z).2 ⟨hzx, hzu⟩) hzd
  · show (if x.e.o.dst = some t then x.v else cur t) = _
    by_cases hd : x.e.o.dst = some t
    · rw [if_pos hd]
      obtain ⟨b, u, q1, q2, q3⟩ := good_split (l1 := tr) (l2 := []) (by simpa using hg) (di_nil a0)
      obtain ⟨e1, _⟩ := q2
      rw [e1]
      exact (q3.val x (by simpa using hx) t hd).symm
    · rw [if_neg hd]
      refine h3 t fun z hz hzu hzd => ?_
      by_cases hzx : z.e.i = x.e.i
      · rcases Classical.em (z = x) with rfl | hne2
        · exact hd hzd
        · obtain ⟨l1, l2, hsp⟩ := List.append_of_mem hx
          have hz2 := hz
          rw [hsp] at hz2
          rcases List.mem_append.1 hz2 with hz3 | hz3
          · subst hsp
            obtain ⟨q1, _⟩ := good_at hg
            exact q1.fresh z (by simpa using hz3) hzx
          · cases hz3 with
            | head => exact hne2 rfl
            | tail _ hz3 =>
              obtain ⟨m1, m2, hm⟩ := List.append_of_mem hz3
              have : tr = (l1 ++ x :: m1) ++ z :: m2 := by rw [hsp, hm]; simp
              rw [this] at hg
              obtain ⟨q1, _⟩ := good_at hg
              exact q1.fresh x (by simp) hzx.symm
      · exact ht z hz ((un' z).2 ⟨hzx, hzu⟩) hzd

structure Inv (P : Program) (base : Nat) (G : List Nat) (ops : Array Oper) (tr : List Stp) (a0 aN : Fr) (s0 sN : St) (σ0 : Emb) (w0 : World) (listed : Array Bool) (pre suf : List Stp) (a : Fr) (s : St) (σ : Emb) (A : Act) (w : World) : Prop where
  spl : tr = pre ++ suf
  gpre : Good P base G [] a0 s0 pre a s
  gsuf : Good P base G pre.reverse a s suf aN sN
  hd : suf = [] ∨ ∃ h r, suf = h :: r ∧ loud h.e.o.op = true
  size : listed.size = ops.size
  sufU : ∀ x ∈ suf, Un listed x
  preL : ∀ x ∈ pre, loud x.e.o.op = true → listed.getD x.e.i false = true
  clo : ∀ y ∈ tr, listed.getD y.e.i false = true → ∀ j, y.anc.testBit j = true → listed.getD j false = true
  hr : HR P base σ s w
  ext : Ext σ0 s0 σ s
  bel : Below base w0 w
  n : a0.n ≤ A.tmps.size
  df : F2 (DR P σ) a.defers A.defers
  cur : Cur tr aN σ listed A
  ln : ∀ f ∈ pre, Un listed f → f.want = true → LN P base f s σ

theorem LN.grow {σ τ : Emb} {f : Stp} {s t : St} (h : LN P base f s σ) (hg : Grow s t) (hτ : ∀ b, σ b = none → b < s.next → τ b = none) : LN P base f t τ := by
  rcases h with ⟨X, h1, h2, h3, h4, h5⟩ | ⟨b, h1, h2 | ⟨h0, u, h2, h3, h4⟩⟩
  · exact .inl ⟨X, h1, Nat.lt_of_lt_of_le h2 hg.1, hτ _ h3 h2, by rw [hg.2 _ h2]; exact h4, h5⟩
  · exact .inr ⟨b, h1, .inl h2⟩
  · exact .inr ⟨b, h1, .inr ⟨h0, u, h2, h3.trans hg, h4⟩⟩
theorem filter_lt {α : Type} {p q : α → Bool} : ∀ {l : List α}, (∀ x ∈ l, q x = true → p x = true) → (∃ x ∈ l, p x = true ∧ q x = false) → (l.filter q).length < (l.filter p).length
  | [], _, ⟨_, h, _⟩ => by cases h
  | y :: l, hs, ⟨x, hx, h1, h2⟩ => by
    have hle : ∀ {l : List α}, (∀ x ∈ l, q x = true → p x = true) → (l.filter q).length ≤ (l.filter p).length := by
      intro l
      induction l with
      | nil => intro _; exact Nat.le_refl _
      | cons z l ih =>
        intro hs
        have := ih fun x hx => hs x (List.mem_cons_of_mem _ hx)
        simp only [List.filter_cons]
        cases hq : q z
        · cases hp : p z <;> simp <;> omega
        · rw [hs z List.mem_cons_self hq]; simp; omega
    simp only [List.filter_cons]
    cases hx with
    | head =>
      rw [h1, h2]
      have := hle fun x hx => hs x (List.mem_cons_of_mem _ hx)
      simp; omega
    | tail _ hx =>
      have := filter_lt (fun x hx => hs x (List.mem_cons_of_mem _ hx)) ⟨x, hx, h1, h2⟩
      cases hq : q y
      · cases hp : p y <;> simp <;> omega
      · rw [hs y List.mem_cons_self hq]; simp; omega
theorem first_un {listed : Array Bool} : ∀ {l : List Stp}, (∃ x ∈ l, Un listed x) → ∃ l1 x l2, l = l1 ++ x :: l2 ∧ Un listed x ∧ ∀ y ∈ l1, listed.getD y.e.i false = true
  | [], ⟨_, h, _⟩ => by cases h
  | y :: l, h => by
    cases hy : listed.getD y.e.i false
    · exact ⟨[], y, l, rfl, hy, fun z hz => (by cases hz)⟩
    · obtain ⟨x, hx, hxu⟩ := h
      cases hx with
      | head => simp only [Un] at hxu; rw [hy] at hxu; cases hxu
      | tail _ hx =>
        obtain ⟨l1, z, l2, h1, h2, h3⟩ := first_un ⟨x, hx, hxu⟩
        refine ⟨y :: l1, z, l2, by rw [h1]; rfl, h2, fun u hu => ?_⟩
        cases hu with
        | head => exact hy
        | tail _ hu => exact h3 u hu
theorem ops_cur {σ : Emb} {listed : Array Bool} {A : Act} {x : Stp} {b : Fr} (hgl : Gl G σ) (hcon : ∀ y ∈ x.e.o.op.operands, constOk G y = true) (hrd : ∀ t, Operand.tmp t ∈ x.e.o.op.operands → t ∈ x.e.rd)
    (hval : ∀ t ∈ x.e.rd, VR σ (x.a.at t) (A.tmps.getD t undef)) (hb : ∀ t ∈ x.e.rd, b.at t = x.a.at t) : OpsRel σ b A.eval x.e.o.op := fun y hy =>
  operand_rel (hcon y hy) hgl (fun t e => by subst e; rw [hb t (hrd t hy)]; exact hval t (hrd t hy))

theorem any_go (hg : Good P base G [] a0 s0 tr aN sN) (hef : ∀ x ∈ tr, EF ops x.e) (hall : ∀ i, i < ops.size → ∃ x ∈ tr, x.e.i = i) (hok : ∀ o ∈ ops.toList, operOk G ops.toList o = true) (hgl : Gl G σ0) {Q : Exit → Act → World → Prop}
    (hQ : ∀ τ A' w', Ext σ0 s0 τ sN → Rel P base G τ aN sN A' w' → Below base w0 w' → Q .normal A' w') :
    ∀ (fuel : Nat) (listed : Array Bool) (pre suf : List Stp) (a : Fr) (s : St) (σ : Emb) (A : Act) (w : World), Inv P base G ops tr a0 aN s0 sN σ0 w0 listed pre suf a s σ A w →
      (tr.filter fun x => !(listed.getD x.e.i false)).length ≤ fuel → wpAny P .any ops Q fuel listed A w := by
  have isz : ∀ x ∈ tr, x.e.i < ops.size := fun x hx => (Array.getElem?_eq_some_iff.1 (hef x hx).op).1
  -- all listed: the end
  have fin : ∀ {listed pre suf a s σ A w}, Inv P base G ops tr a0 aN s0 sN σ0 w0 listed pre suf a s σ A w → (∀ x ∈ tr, listed.getD x.e.i false = true) → Q .normal A w := by
    intro listed pre suf a s σ A w hi hal
    have hsuf : suf = [] := by
      cases suf with
      | nil => rfl
      | cons x r =>
        have h1 := hi.sufU x List.mem_cons_self
        have h2 := hal x (by rw [hi.spl]; simp)
        simp only [Un] at h1; rw [h2] at h1; cases h1
    subst hsuf
    obtain ⟨e1, e2⟩ := hi.gsuf
    subst e1; subst e2
    refine hQ σ A w hi.ext ⟨hi.hr, Gl.mono hi.ext.le hgl, by rw [good_n hg]; exact hi.n, fun t => ?_, hi.df⟩ hi.bel
    obtain ⟨cur, h1, _, h3⟩ := hi.cur
    have := h1 t
    rw [h3 t (fun y hy hyu => by have := hal y hy; simp only [Un] at hyu; rw [this] at hyu; cases hyu)] at this
    exact this
  have done : ∀ {listed pre suf a s σ A w}, Inv P base G ops tr a0 aN s0 sN σ0 w0 listed pre suf a s σ A w → Region.ready .any ops listed = [] → ∀ x ∈ tr, listed.getD x.e.i false = true := by
    intro listed pre suf a s σ A w hi hr x hx
    cases hxl : listed.getD x.e.i false with
    | true => rfl
    | false =>
      exfalso
      obtain ⟨l1, y, l2, h1, h2, h3⟩ := first_un ⟨x, hx, hxl⟩
      have hy : y ∈ tr := by rw [h1]; simp
      have hg' := hg
      rw [h1] at hg'
      obtain ⟨q1, _⟩ := good_at hg'
      have : y.e.i ∈ Region.ready .any ops listed := by
        rw [mem_ready]
        have hys : y.e.i < listed.size := by rw [hi.size]; exact isz y hy
        refine ⟨?_, y.e.o, (hef y hy).op, fun e he hb => ?_⟩
        · have h2 : listed.getD y.e.i false = false := h2
          simp [hys] at h2 ⊢
          exact h2
        · obtain ⟨z, hz, hzi⟩ := q1.deps e.on (((hef y hy).deps e.on).2 ⟨e, he, hb, rfl⟩)
          rw [← hzi]
          exact h3 z (by simpa using hz)
      rw [hr] at this
      cases this
  intro fuel
  induction fuel with
  | zero =>
    intro listed pre suf a s σ A w hi hlen
    have hal : ∀ x ∈ tr, listed.getD x.e.i false = true := fun x hx => by
      cases hxl : listed.getD x.e.i false with
      | true => rfl
      | false =>
        have hm : x ∈ tr.filter fun x => !(listed.getD x.e.i false) := List.mem_filter.2 ⟨hx, by rw [hxl]; rfl⟩
        have := List.length_pos_of_mem hm
        omega
    refine ⟨?_, fin hi hal⟩
    rw [List.eq_nil_iff_forall_not_mem]
    intro j hj
    obtain ⟨h1, o, h2, _⟩ := mem_ready.1 hj
    have hjs : j < ops.size := (Array.getElem?_eq_some_iff.1 h2).1
    obtain ⟨x, hx, hxj⟩ := hall j hjs
    have h3 := hal x hx
    rw [hxj] at h3
    have hjl : j < listed.size := by rw [hi.size]; exact hjs
    simp [hjl] at h1 h3
    rw [h3] at h1; cases h1
  | succ fuel ih =>
    intro listed pre suf a s σ A w hi hlen
    refine ⟨fun hr => fin hi (done hi hr), fun i hir => ?_⟩
    obtain ⟨h1, o, h2, h3⟩ := mem_ready.1 hir
    have his : i < ops.size := (Array.getElem?_eq_some_iff.1 h2).1
    obtain ⟨x, hx, hxi⟩ := hall i his
    subst hxi
    have hxo : o = x.e.o := by have := (hef x hx).op; rw [h2] at this; cases this; rfl
    subst hxo
    have hls : x.e.i < listed.size := by rw [hi.size]; exact his
    have hxu : Un listed x := by simp only [Un]; simp [hls] at h1 ⊢; exact h1
    have hdeps : ∀ d ∈ x.e.deps, listed.getD d false = true := fun d hd => by
      obtain ⟨ed, e1, e2, rfl⟩ := ((hef x hx).deps d).1 hd
      exact h3 ed e1 e2
    obtain ⟨l1, l2, hsp⟩ := List.append_of_mem hx
    have hgx := hg
    rw [hsp] at hgx
    obtain ⟨sf, dix, gx2, gx1⟩ := good_at hgx
    have hanc : ∀ j, x.anc.testBit j = true → listed.getD j false = true := fun j hj => by
      obtain ⟨d, hd, hjd⟩ := (sf.anc j).1 hj
      rcases hjd with rfl | ⟨y, hy, hyd, hb⟩
      · exact hdeps j hd
      · refine hi.clo y (by rw [hsp]; simp at hy; exact List.mem_append_left _ hy) ?_ j hb
        rw [hyd]; exact hdeps d hd
    have un' : ∀ y, Un (listed.setIfInBounds x.e.i true) y ↔ (y.e.i ≠ x.e.i ∧ Un listed y) := fun y => by
      simp only [Un]; rw [getD_set hls]; simp
    have li' : ∀ j, (listed.setIfInBounds x.e.i true).getD j false = true ↔ (j = x.e.i ∨ listed.getD j false = true) := fun j => by
      rw [getD_set hls]; simp
    have hlen' : (tr.filter fun y => !((listed.setIfInBounds x.e.i true).getD y.e.i false)).length ≤ fuel := by
      have := filter_lt (l := tr) (p := fun y => !(listed.getD y.e.i false)) (q := fun y => !((listed.setIfInBounds x.e.i true).getD y.e.i false))
        (fun y _ hq => by
          have hq' : Un (listed.setIfInBounds x.e.i true) y := by simp only [Un]; simpa using hq
          have := ((un' y).1 hq').2
          simp only [Un] at this
          rw [this]; rfl)
        ⟨x, hx, by simp only [Un] at hxu; rw [hxu]; rfl, by rw [getD_set hls]; simp⟩
      omega
    have hvals : ∀ t ∈ x.e.rd, VR σ (x.a.at t) (A.tmps.getD t undef) := fun t ht => by
      obtain ⟨cur, c1, c2, _⟩ := hi.cur
      have := c1 t
      rw [c2 x hx hxu t ht fun y hy hyu hyd => by
        cases hb : x.anc.testBit y.e.i with
        | false => rfl
        | true =>
          have := hanc _ hb
          simp only [Un] at hyu
          rw [this] at hyu; cases hyu] at this
      exact this
    have hmem : x.e.o ∈ ops.toList := by rw [← Array.getElem?_toList] at h2; exact List.mem_of_getElem? h2
    obtain ⟨hgok, hcok⟩ := operOk_of (hok _ hmem)
    have hglσ := Gl.mono hi.ext.le hgl
    have hwant : Region.wanted x.e.o (yielded ops A.tmps) = x.want := by
      have hgd := sf.guard
      have hbool : ∀ {d c}, d ∈ x.e.rd → x.a.at d = .bool c → A.tmps.getD d undef = .bool c := fun hd hc => by
        have := hvals _ hd
        rw [hc] at this
        simpa only [VR] using this
      cases hgg : x.e.g with
      | none =>
        rw [hgg] at hgd
        have hgd : x.want = true := hgd
        rw [hgd]
        exact wanted_yes hgok (.inl (by rw [← (hef x hx).g]; exact hgg))
      | some g =>
        obtain ⟨d, wv⟩ := g
        rw [hgg] at hgd
        have hgd : x.a.at d = .bool (wv == x.want) := hgd
        have hdr := (hef x hx).grd d wv hgg
        have hgt : guardTmp ops.toList x.e.o.guard = some (d, wv) := by rw [← (hef x hx).g]; exact hgg
        cases hww : x.want
        · rw [hww] at hgd
          exact wanted_no hgok ⟨d, wv, hgt, by have := hbool hdr hgd; rw [this]; cases wv <;> rfl⟩
        · rw [hww] at hgd
          exact wanted_yes hgok (.inr ⟨d, wv, hgt, by have := hbool hdr hgd; rw [this]; cases wv <;> rfl⟩)
    have hlt : ∀ d, x.e.o.dst = some d → d < A.tmps.size := fun d hd => by
      exact Nat.lt_of_lt_of_le (sf.lt d hd) (by rw [good_n gx1]; exact hi.n)
    have clo' : ∀ y ∈ tr, (listed.setIfInBounds x.e.i true).getD y.e.i false = true → ∀ j, y.anc.testBit j = true → (listed.setIfInBounds x.e.i true).getD j false = true := fun y hy hyl j hj => by
      rw [li']
      rcases (li' _).1 hyl with hyx | hyl
      · right
        by_cases hyx' : y = x
        · subst hyx'; exact hanc j hj
        · exfalso
          rcases List.mem_append.1 (show y ∈ l1 ++ x :: l2 by rw [← hsp]; exact hy) with hy1 | hy1
          · exact sf.fresh y (by simpa using hy1) hyx
          · cases hy1 with
            | head => exact hyx' rfl
            | tail _ hy1 =>
              obtain ⟨m1, m2, hm⟩ := List.append_of_mem hy1
              have : tr = (l1 ++ x :: m1) ++ y :: m2 := by rw [hsp, hm]; simp
              have hg2 := hg
              rw [this] at hg2
              obtain ⟨q1, _⟩ := good_at hg2
              exact q1.fresh x (by simp) hyx.symm
      · exact .inr (hi.clo y hy hyl j hj)
    unfold wpOp
    rw [h2]
    show if Region.wanted x.e.o (yielded ops A.tmps) = true then _ else _
    rw [hwant]
    -- is it behind the cut, or ahead of it?
    rcases List.mem_append.1 (show x ∈ pre ++ suf by rw [← hi.spl]; exact hx) with hpre | hsuf
    · -- a quiet one that is left over
      have hql : loud x.e.o.op = false := by
        cases hll : loud x.e.o.op with
        | false => rfl
        | true =>
          have := hi.preL x hpre hll
          simp only [Un] at hxu
          rw [this] at hxu; cases hxu
      -- the new state of things
      have next : ∀ {τ : Emb} {A' : Act} {w' : World} {v' : Value}, HR P base τ s w' → Emb.le σ τ → Below base w w' → VR τ x.v v' → A'.tmps = A.tmps → A'.defers = A.defers → (∀ b, σ b = none → τ b = none ∨ (b = x.s.next ∧ x.s1.next = x.s.next + 1 ∧ s0.next ≤ b)) →
          wpAny P .any ops Q fuel (listed.setIfInBounds x.e.i true) (A'.put x.e.o.dst v') w' := by
        intro τ A' w' v' hr' hle hbel hv hA1 hA2 hnew
        refine ih _ pre suf a s τ _ w' ⟨hi.spl, hi.gpre, hi.gsuf, hi.hd, by simp [hi.size], fun y hy => ?_, fun y hy hyl => (li' _).2 (.inr (hi.preL y hy hyl)), clo', hr', ?_, hi.bel.trans hbel, by rw [put_size, hA1]; exact hi.n, by rw [put_defers', hA2]; exact hi.df.mono fun _ _ => DR.mono hle, hi.cur.step hg hx hxu hls hanc hle hv hA1 hlt, fun f hf hfu hfw => ?_⟩ hlen'
        · refine (un' y).2 ⟨fun e => ?_, hi.sufU y hy⟩
          obtain ⟨m1, m2, hm⟩ := List.append_of_mem hy
          have : tr = (pre ++ m1) ++ y :: m2 := by rw [hi.spl, hm]; simp
          have hg2 := hg
          rw [this] at hg2
          obtain ⟨q1, _⟩ := good_at hg2
          exact q1.fresh x (by simp; exact .inr hpre) e.symm
        · refine ⟨hi.ext.le.trans hle, hi.ext.next, fun b hb hσ => ?_, hi.ext.ok⟩
          obtain ⟨u1, u2⟩ := hi.ext.unborn b hb hσ
          rcases hnew b u1 with u3 | ⟨u3, _, u4⟩
          · exact ⟨u3, u2⟩
          · omega
        · obtain ⟨hfne, hfu'⟩ := (un' f).1 hfu
          have hln := hi.ln f hf hfu' hfw
          rcases hln with ⟨X, k1, k2, k3, k4, k5⟩ | hln
          · refine .inl ⟨X, k1, k2, ?_, k4, k5⟩
            rcases hnew _ k3 with u | ⟨u1, u2, _⟩
            · exact u
            · exfalso
              have hf' : f ∈ tr := by rw [hi.spl]; exact List.mem_append_left _ hf
              have e1 := k1.next
              rcases pair_of hg hf' hx hfne with hb | hb
              · have := hb.next; omega
              · have := hb.next; omega
          · exact .inr hln
      cases hw : x.want
      · rw [if_neg (by decide)]
        rcases sf.step with ⟨_, q2, _, _⟩ | ⟨q1, _⟩ | ⟨q1, _⟩
        · exact next (A' := A) hi.hr (Emb.le.refl σ) (Below.refl _ _) (by rw [q2]; exact tupV) rfl rfl (fun b hb => .inl hb)
        · rw [hw] at q1; cases q1
        · rw [hw] at q1; cases q1
      · rw [if_pos rfl]
        refine .inl ?_
        have gives : ∀ {v' w'}, Gives ((execOp A.eval x.e.o).run P w) v' w' → wpAny P .any ops Q fuel (listed.setIfInBounds x.e.i true) (A.put x.e.o.dst v') w' → x.e.o.wp P A w (wpAny P .any ops Q fuel (listed.setIfInBounds x.e.i true)) Q := by
          intro v' w' hgv hk
          unfold Oper.wp
          rcases hgv with hgv | ⟨hgv, rfl⟩
          · rw [hgv]; exact hk
          · rw [hgv]; exact hk
        rcases hi.ln x hpre hxu hw with ⟨X, k1, k2, k3, k4, k5⟩ | ⟨b, k1, k2 | ⟨_, u, k2, k3, k4⟩⟩
        · obtain ⟨v', w', p, r1, r2, r3, r4⟩ := k5 σ s A.eval w hi.hr (ops_cur (listed := listed) hglσ hcok (hef x hx).rd hvals fun _ _ => rfl) k2 k3 k4
          refine gives r1 (next (A' := A) r3 (Emb.le_put k3) r4 r2 rfl rfl fun b hb => ?_)
          by_cases hbx : b = x.s.next
          · exact .inr ⟨hbx, k1.next, by rw [hbx]; exact (good_up gx1).1⟩
          · exact .inl (by rw [Emb.put_ne hbx]; exact hb)
        · obtain ⟨v', r1, r2⟩ := k2 σ s A.eval w hi.hr (ops_cur (listed := listed) hglσ hcok (hef x hx).rd hvals k1)
          exact gives r1 (next (A' := A) hi.hr (Emb.le.refl σ) (Below.refl _ _) r2 rfl rfl fun b hb => .inl hb)
        · obtain ⟨v', w', r1, r2, r3, r4⟩ := k4 σ s A.eval w hi.hr (ops_cur (listed := listed) hglσ hcok (hef x hx).rd hvals k1) k3.2 k2
          exact gives r1 (next (A' := A) r3 (Emb.le.refl σ) r4 r2 rfl rfl fun b hb => .inl hb)
    · -- the loud one at the cut
      obtain ⟨h, r, hsr, hhl⟩ : ∃ h r, suf = h :: r ∧ loud h.e.o.op = true := by
        rcases hi.hd with hd | hd
        · rw [hd] at hsuf; cases hsuf
        · exact hd
      have hxh : x = h := by
        rw [hsr] at hsuf
        cases hsuf with
        | head => rfl
        | tail _ hxr =>
          exfalso
          obtain ⟨m1, m2, hm⟩ := List.append_of_mem hxr
          have : tr = (pre ++ h :: m1) ++ x :: m2 := by rw [hi.spl, hsr, hm]; simp
          have hg2 := hg
          rw [this] at hg2
          obtain ⟨q1, _⟩ := good_at hg2
          have hrev : ((pre ++ h :: m1).reverse).map (·.e) = (m1.reverse.map (·.e)) ++ h.e :: (pre.reverse.map (·.e)) := by simp
          obtain ⟨j, j1, z, hz, j2⟩ := lastLoud_some (m1.reverse.map (·.e)) h.e (pre.reverse.map (·.e)) hhl
          have := hanc j (q1.last j (by rw [hrev]; exact j1))
          have hzs : ∃ y ∈ suf, y.e.i = j := by
            rw [hsr]
            rcases List.mem_append.1 hz with hz | hz
            · obtain ⟨y, hy, rfl⟩ := List.mem_map.1 hz
              exact ⟨y, List.mem_cons_of_mem _ (by rw [hm]; exact List.mem_append_left _ (by simpa using hy)), j2⟩
            · simp only [List.mem_singleton] at hz
              subst hz
              exact ⟨h, List.mem_cons_self, j2⟩
          obtain ⟨y, hy, hyj⟩ := hzs
          have := hi.sufU y hy
          simp only [Un] at this
          rw [hyj] at this
          simp_all
      subst hxh
      subst hsr
      obtain ⟨ea, es, sfh, gr⟩ := hi.gsuf
      obtain ⟨N, r', hN, hNq, hr'⟩ := split_quiet r
      subst hN
      obtain ⟨b, u, gN, gr', _⟩ := good_split gr (DI.cons (by
        obtain ⟨_, q, _⟩ := good_at (l1 := pre) (x := x) (l2 := N ++ r') (by rw [← hi.spl]; exact hg)
        exact q) sfh)
      obtain ⟨grow, dfr⟩ := good_quiet gN hNq
      have hpre' : (pre ++ x :: N).reverse = N.reverse ++ x :: pre.reverse := by simp
      have gx : Good P base G [] a0 s0 (pre ++ x :: N) b u := good_append hi.gpre (by
        simp only [List.append_nil]
        exact ⟨ea, es, sfh, gN⟩)
      have next : ∀ {τ : Emb} {A' : Act} {w' : World} {v' : Value}, HR P base τ x.s1 w' → Ext σ s τ x.s1 → Below base w w' → VR τ x.v v' → A'.tmps = A.tmps → F2 (DR P τ) x.a1.defers A'.defers → (∀ f ∈ pre, Un listed f → f.want = true → LN P base f u τ) →
          wpAny P .any ops Q fuel (listed.setIfInBounds x.e.i true) (A'.put x.e.o.dst v') w' := by
        intro τ A' w' v' hr1 hext hbel hv hA1 hA2 hln
        have hru : HR P base τ u w' := hr1.more grow.1 fun c hc => by
          obtain ⟨p, hp⟩ := hc
          exact grow.2 c (hr1.dom c p.1 p.2 hp)
        refine ih _ (pre ++ x :: N) r' b u τ _ w' ⟨by rw [hi.spl]; simp, gx, by rw [hpre']; exact gr', hr', by simp [hi.size], fun y hy => ?_, fun y hy hyl => (li' _).2 ?_, clo', hru, ?_, hi.bel.trans hbel, by rw [put_size, hA1]; exact hi.n, by rw [put_defers', dfr]; exact hA2, hi.cur.step hg hx hxu hls hanc hext.le hv hA1 hlt, fun f hf hfu hfw => ?_⟩ hlen'
        · refine (un' y).2 ⟨fun e => ?_, hi.sufU y (List.mem_cons_of_mem _ (List.mem_append_right _ hy))⟩
          obtain ⟨m1, m2, hm⟩ := List.append_of_mem hy
          have : tr = (pre ++ x :: (N ++ m1)) ++ y :: m2 := by rw [hi.spl, hm]; simp
          have hg2 := hg
          rw [this] at hg2
          obtain ⟨q1, _⟩ := good_at hg2
          exact q1.fresh x (by simp) e.symm
        · rcases List.mem_append.1 hy with hy | hy
          · exact .inr (hi.preL y hy hyl)
          · cases hy with
            | head => exact .inl rfl
            | tail _ hy => rw [hNq y hy] at hyl; cases hyl
        · have e2 : Ext τ x.s1 τ u := ⟨Emb.le.refl τ, grow.1, fun c hc hτ => ⟨hτ, grow.2 c hc⟩, (good_up gN).2⟩
          exact (hi.ext.trans hext).trans e2
        · obtain ⟨hfne, hfu'⟩ := (un' f).1 hfu
          rcases List.mem_append.1 hf with hf | hf
          · exact hln f hf hfu' hfw
          · cases hf with
            | head => exact absurd rfl hfne
            | tail _ hf =>
              obtain ⟨n1, n2, hn⟩ := List.append_of_mem hf
              subst hn
              obtain ⟨b1, u1, q1, q2, _⟩ := good_split gN (DI.cons (by
                obtain ⟨_, q, _⟩ := good_at (l1 := pre) (x := x) (l2 := (n1 ++ f :: n2) ++ r') (by rw [← hi.spl]; exact hg)
                exact q) sfh)
              obtain ⟨f1, f2, f3, f4⟩ := q2
              have hfq := hNq f (by simp)
              obtain ⟨w1, _⟩ := good_quiet q1 fun y hy => hNq y (by simp [hy])
              obtain ⟨w2, _⟩ := good_quiet f4 fun y hy => hNq y (by simp [hy])
              obtain ⟨w3, _⟩ := sf_quiet f3 hfq
              rw [← f2] at w1
              rcases f3.step with ⟨q, _⟩ | ⟨_, _, q, _⟩ | ⟨_, q, _⟩
              · rw [hfw] at q; cases q
              · rcases q with (⟨_, q⟩ | ⟨X, q5, q6⟩) | ⟨q3, _, q4⟩
                · exact .inr ⟨f.a, fun _ _ => rfl, .inl q⟩
                · refine .inl ⟨X, q5, ?_, ?_, ?_, q6⟩
                  · have := q5.next; have := w2.1; omega
                  · cases hτ : τ f.s.next with
                    | none => rfl
                    | some p => have := hr1.dom _ p.1 p.2 hτ; have := w1.1; omega
                  · rw [w2.2 _ (by have := q5.next; omega), q5.blk, if_pos rfl]
                · exact .inr ⟨f.a, fun _ _ => rfl, .inr ⟨q3, f.s, f3.ok, w3.trans w2, q4⟩⟩
              · rw [hfq] at q; cases q
      cases hw : x.want
      · rw [if_neg (by decide)]
        rcases sfh.step with ⟨_, q2, q3, q4⟩ | ⟨q1, _⟩ | ⟨q1, _⟩
        · have hss : x.s1 = s := q3.trans es
          refine next (A' := A) (τ := σ) (by rw [hss]; exact hi.hr) (by rw [hss]; exact Ext.refl σ s) (Below.refl _ _) (by rw [q2]; exact tupV) rfl (by rw [q4, ea]; exact hi.df) fun f hf hfu hfw => ?_
          exact (hi.ln f hf hfu hfw).grow (by rw [← hss]; exact grow) fun _ hb _ => hb
        · rw [hw] at q1; cases q1
        · rw [hw] at q1; cases q1
      · rw [if_pos rfl]
        rcases sfh.step with ⟨q1, _⟩ | ⟨_, q1, _⟩ | ⟨_, _, ⟨a', q1, q2⟩, q3⟩
        · rw [hw] at q1; cases q1
        · rw [hhl] at q1; cases q1
        · refine .inl (q2.2.2.2 σ A w _ _ sfh.ok hglσ (by rw [es]; exact hi.hr) (ops_cur (listed := listed) hglσ hcok (hef x hx).rd hvals fun _ _ => rfl) (by rw [ea]; exact hi.df) fun τ v' w' D x1 x2 x3 x4 x5 => ?_)
          rw [es] at x1
          refine next (A' := { A with defers := D }) x2 x1 x3 x4 rfl (by rw [← q1]; exact x5) fun f hf hfu hfw => ?_
          have hfl : loud f.e.o.op = false := by
            cases hll : loud f.e.o.op with
            | false => rfl
            | true =>
              have := hi.preL f hf hll
              simp only [Un] at hfu
              rw [this] at hfu; cases hfu
          have hfa : x.anc.testBit f.e.i = false := by
            cases hll : x.anc.testBit f.e.i with
            | false => rfl
            | true =>
              have := hanc _ hll
              simp only [Un] at hfu
              rw [this] at hfu; cases hfu
          cases hrd : reads f.e.o.op with
          | true =>
            obtain ⟨r1, r2⟩ := q3 f (by simpa using hf) hrd hfl hfa hfw
            rcases r2 with r2 | r2
            · exact .inr ⟨x.a1, r1, .inl r2⟩
            · exact .inr ⟨x.a1, r1, .inr ⟨hrd, x.s1, sfh.ok1, grow, r2⟩⟩
          | false =>
            rcases hi.ln f hf hfu hfw with ⟨X, k1, k2, k3, k4, k5⟩ | ⟨c, k1, k2 | ⟨k2, _⟩⟩
            · obtain ⟨u1, u2⟩ := x1.unborn _ k2 k3
              refine .inl ⟨X, k1, Nat.lt_of_lt_of_le k2 (Nat.le_trans x1.next grow.1), u1, ?_, k5⟩
              rw [grow.2 _ (Nat.lt_of_lt_of_le k2 x1.next), u2]
              exact k4
            · exact .inr ⟨c, k1, .inl k2⟩
            · rw [hrd] at k2; cases k2
end
end Go.Ev
