import Derived.Test.YtkbffpadkdgbmaaGreatDoorEvD1
import Derived.Orders
/- Regions whose order is drawn: the run that is told. -/
namespace Go.Ev
open Go Go.RowKit Go.Lib
set_option linter.unusedVariables false
set_option linter.unusedSimpArgs false
set_option linter.deprecated false

theorem eqC_of {a b : Value} (h : eqC a b = true) : a = b := by
  cases a <;> cases b <;> first
    | exact no h
    | rfl
    | (simp only [eqC, beq_iff_eq] at h; rw [h])
    | (simp only [eqC, Bool.and_eq_true, decide_eq_true_eq] at h; obtain ⟨h1, h2⟩ := h; rw [h1, h2])
    | (simp only [eqC, decide_eq_true_eq] at h; rw [h])
    | (simp only [eqC, Bool.and_eq_true, decide_eq_true_eq] at h; obtain ⟨⟨h1, h2⟩, h3⟩ := h; rw [h1, h2, h3])
    | (rename_i x y
       simp only [eqC, beq_iff_eq] at h
       congr 1
       apply ByteArray.ext
       exact Array.ext' h)
theorem eqL_of : ∀ {a b : List Value}, eqL a b = true → a = b
  | [], [], _ => rfl
  | [], _ :: _, h => no h
  | _ :: _, [], h => no h
  | x :: a, y :: b, h => by
    simp only [eqL, Bool.and_eq_true] at h
    rw [eqC_of h.1, eqL_of h.2]
theorem eqV_of {a b : Value} (h : eqV a b = true) : a = b := by
  cases a <;> cases b <;> first
    | exact eqC_of h
    | (rename_i x y; have := eqL_of (show eqL x.toList y.toList = true from h); congr 1; exact Array.ext' this)

/-- One step of the run that is told. -/
structure Stp where
  e : Ent
  a : Fr
  s : St
  v : Value
  a1 : Fr
  s1 : St
  anc : Nat
  want : Bool

section
variable (P : Program) (base : Nat) (G : List Nat)
/-- What is known of a guard. -/
def GuardIs (a : Fr) (g : Option (Nat × Bool)) (b : Bool) : Prop := match g with | none => b = true | some (d, w) => a.at d = .bool (w == b)
/-- What is known of a step, those of 'done' being ahead of it. -/
structure SF (done : List Stp) (x : Stp) : Prop where
  ok : x.s.Ok
  deps : ∀ d ∈ x.e.deps, ∃ y ∈ done, y.e.i = d
  fresh : ∀ y ∈ done, y.e.i ≠ x.e.i
  anc : ∀ j, x.anc.testBit j = true ↔ ∃ d ∈ x.e.deps, j = d ∨ ∃ y ∈ done, y.e.i = d ∧ y.anc.testBit j = true
  last : ∀ j, lastLoud (done.map (·.e)) = some j → x.anc.testBit j = true
  rd1 : ∀ y ∈ done, isDst y.e.o x.e.rd = true → x.anc.testBit y.e.i = true
  rd2 : ∀ y ∈ done, isDst x.e.o y.e.rd = true → x.anc.testBit y.e.i = true
  ne : ∀ y ∈ done, ∀ d, x.e.o.dst = some d → y.e.o.dst ≠ some d
  put : ∀ t, x.a1.at t = if x.e.o.dst = some t then x.v else x.a.at t
  n : x.a1.n = x.a.n
  lt : ∀ d, x.e.o.dst = some d → d < x.a.n
  guard : GuardIs x.a x.e.g x.want
  grd : ∀ d w, x.e.g = some (d, w) → d ∈ x.e.rd
  step : (x.want = false ∧ x.v = .tuple #[] ∧ x.s1 = x.s ∧ x.a1.defers = x.a.defers) ∨
    (x.want = true ∧ loud x.e.o.op = false ∧ StepQ P base x.e.o x.a x.s x.v x.s1 ∧ x.a1.defers = x.a.defers) ∨
    (x.want = true ∧ loud x.e.o.op = true ∧ (∃ a', a'.defers = x.a1.defers ∧ StepL P base G x.e.o x.a x.s x.v a' x.s1) ∧
      ∀ f ∈ done, reads f.e.o.op = true → loud f.e.o.op = false → x.anc.testBit f.e.i = false → f.want = true →
        (∀ t ∈ f.e.rd, x.a1.at t = f.a.at t) ∧ (StepP P base f.e.o x.a1 f.v ∨ StepR P base f.e.o x.a1 x.s1 f.v))
  ok1 : x.s1.Ok
  up : x.s.Up x.s1
/-- The steps follow one another. -/
def Good : List Stp → Fr → St → List Stp → Fr → St → Prop
  | _, a, s, [], a', s' => a' = a ∧ s' = s
  | done, a, s, x :: l, a', s' => x.a = a ∧ x.s = s ∧ SF P base G done x ∧ Good (x :: done) x.a1 x.s1 l a' s'
end

section
variable {P : Program} {base : Nat} {G : List Nat} {ih : IH}
theorem pick1_mem {q : Bool} {done : List Ent} : ∀ {es : List Ent} {e : Ent}, pick1 q done es = some e → e ∈ es
  | [], _, h => by cases h
  | x :: es, e, h => by
    unfold pick1 at h
    cases hc : ((q && loud x.o.op) || hasEnt x.i done || !(allDone done x.deps))
    · rw [hc] at h; cases h; exact List.mem_cons_self
    · rw [hc] at h; exact List.mem_cons_of_mem _ (pick1_mem h)
theorem hasEnt_of {i : Nat} : ∀ {l : List Ent}, hasEnt i l = true → ∃ e ∈ l, e.i = i
  | [], h => no h
  | e :: l, h => by
    unfold hasEnt at h
    cases hb : Nat.beq i e.i
    · rw [hb] at h
      obtain ⟨f, h1, h2⟩ := hasEnt_of h
      exact ⟨f, List.mem_cons_of_mem _ h1, h2⟩
    · exact ⟨e, List.mem_cons_self, (beqN_true hb).symm⟩
theorem hasEnt_mem {i : Nat} : ∀ {l : List Ent}, (∃ e ∈ l, e.i = i) → hasEnt i l = true
  | [], ⟨_, h, _⟩ => by cases h
  | e :: l, ⟨f, h1, h2⟩ => by
    unfold hasEnt
    cases hb : Nat.beq i e.i
    · rw [cond_false]
      cases h1 with
      | head => rw [beqN, h2] at hb; simp at hb
      | tail _ h1 => exact hasEnt_mem ⟨f, h1, h2⟩
    · rfl
theorem allDone_of {done : List Ent} : ∀ {l : List Nat}, allDone done l = true → ∀ d ∈ l, ∃ e ∈ done, e.i = d
  | [], _, _, h => by cases h
  | j :: l, h, d, hd => by
    obtain ⟨h1, h2⟩ := cond_of (show (bif hasEnt j done then allDone done l else false) = true from h)
    cases hd with
    | head => exact hasEnt_of h1
    | tail _ hd => exact allDone_of h2 d hd
theorem maskOf_mem {done : List Stp} (hn : done.Pairwise fun x y => x.e.i ≠ y.e.i) {y : Stp} (hy : y ∈ done) : maskOf (done.map fun x => (x.e.i, x.anc)) y.e.i = y.anc := by
  induction done with
  | nil => cases hy
  | cons x done ih =>
    simp only [List.map_cons, maskOf]
    rw [List.pairwise_cons] at hn
    cases hy with
    | head => rw [beqN]; simp
    | tail _ hy =>
      have : Nat.beq x.e.i y.e.i = false := by rw [beqN]; simpa using hn.1 y hy
      rw [this, cond_false]
      exact ih hn.2 hy
theorem maskOf_none {done : List Stp} {j : Nat} (hj : ∀ y ∈ done, y.e.i ≠ j) : maskOf (done.map fun x => (x.e.i, x.anc)) j = 0 := by
  induction done with
  | nil => rfl
  | cons x done ih =>
    simp only [List.map_cons, maskOf]
    have : Nat.beq x.e.i j = false := by rw [beqN]; simpa using hj x List.mem_cons_self
    rw [this, cond_false]
    exact ih fun y hy => hj y (List.mem_cons_of_mem _ hy)
theorem ancOf_bit {done : List Stp} (hn : done.Pairwise fun x y => x.e.i ≠ y.e.i) : ∀ (ds : List Nat) (j : Nat),
    (ancOf (done.map fun x => (x.e.i, x.anc)) ds).testBit j = true ↔ ∃ d ∈ ds, j = d ∨ ∃ y ∈ done, y.e.i = d ∧ y.anc.testBit j = true
  | [], j => by simp [ancOf]
  | d :: ds, j => by
    have h1 : ancOf (done.map fun x => (x.e.i, x.anc)) (d :: ds) = ((2 ^ d ||| maskOf (done.map fun x => (x.e.i, x.anc)) d) ||| ancOf (done.map fun x => (x.e.i, x.anc)) ds) := rfl
    rw [h1, Nat.testBit_or, Nat.testBit_or, Bool.or_eq_true, Bool.or_eq_true, ancOf_bit hn ds j, Nat.testBit_two_pow]
    have hm : (maskOf (done.map fun x => (x.e.i, x.anc)) d).testBit j = true ↔ ∃ y ∈ done, y.e.i = d ∧ y.anc.testBit j = true := by
      by_cases hd : ∃ y ∈ done, y.e.i = d
      · obtain ⟨y, hy, rfl⟩ := hd
        rw [maskOf_mem hn hy]
        constructor
        · intro h; exact ⟨y, hy, rfl, h⟩
        · rintro ⟨z, hz, h1, h2⟩
          have e1 := maskOf_mem hn hz
          rw [h1, maskOf_mem hn hy] at e1
          rw [e1]; exact h2
      · rw [maskOf_none fun y hy e => hd ⟨y, hy, e⟩]
        simp only [Nat.zero_testBit, Bool.false_eq_true, false_iff]
        rintro ⟨y, hy, e, _⟩
        exact hd ⟨y, hy, e⟩
    rw [hm]
    constructor
    · rintro ((h | h) | ⟨d', hd', h⟩)
      · exact ⟨d, List.mem_cons_self, .inl (by have := h; simp at this; omega)⟩
      · exact ⟨d, List.mem_cons_self, .inr h⟩
      · exact ⟨d', List.mem_cons_of_mem _ hd', h⟩
    · rintro ⟨d', hd', h⟩
      cases hd' with
      | head =>
        rcases h with h | h
        · exact .inl (.inl (by simpa using h.symm))
        · exact .inl (.inr h)
      | tail _ hd' => exact .inr ⟨d', hd', h⟩
theorem guardIs_of {a : Fr} {g : Option (Nat × Bool)} {yes no' : Unit → Bool} (h : guardK a g yes no' = true) : (GuardIs a g true ∧ yes () = true) ∨ (GuardIs a g false ∧ no' () = true) := by
  rcases guardK_of h with ⟨h1, h2⟩ | ⟨⟨d, b, h1, h3⟩, h2⟩
  · refine .inl ⟨?_, h2⟩
    rcases h1 with rfl | ⟨d, b, rfl, h3⟩
    · rfl
    · show a.at d = _
      rw [h3]; cases b <;> rfl
  · subst h1
    refine .inr ⟨?_, h2⟩
    show a.at d = _
    rw [h3]; cases b <;> rfl
theorem guardIs_fun {a b : Fr} {g : Option (Nat × Bool)} {x y : Bool} (hab : ∀ d w, g = some (d, w) → a.at d = b.at d) (h1 : GuardIs a g x) (h2 : GuardIs b g y) : x = y := by
  cases g with
  | none => simp only [GuardIs] at h1 h2; rw [h1, h2]
  | some g =>
    obtain ⟨d, w⟩ := g
    simp only [GuardIs] at h1 h2
    rw [hab d w rfl, h2] at h1
    cases w <;> cases x <;> cases y <;> first | rfl | (exfalso; simp at h1)
theorem isDst_of {o : Oper} {d : Nat} {rd : List Nat} (h1 : o.dst = some d) (h2 : d ∈ rd) : isDst o rd = true := by
  unfold isDst; rw [h1]; exact memN_mem h2
theorem isDst_cases {o : Oper} {rd : List Nat} (h : isDst o rd = true) : ∃ d, o.dst = some d ∧ d ∈ rd := by
  unfold isDst at h
  cases hd : o.dst with
  | none => rw [hd] at h; cases h
  | some d => rw [hd] at h; exact ⟨d, rfl, memN_of h⟩
/-- What the steps behind one have done to the frame. -/
structure DI (done : List Stp) (a : Fr) : Prop where
  keep : ∀ l1 f l2, done = l1 ++ f :: l2 → ∀ t, f.e.o.dst ≠ some t → (∀ g ∈ l1, g.e.o.dst ≠ some t) → a.at t = f.a.at t
  val : ∀ f ∈ done, ∀ d, f.e.o.dst = some d → a.at d = f.v
  anc : ∀ l1 f l2, done = l1 ++ f :: l2 → ∀ j, f.anc.testBit j = true → ∃ y ∈ l2, y.e.i = j
  ne : done.Pairwise fun x y => x.e.i ≠ y.e.i
  gd : ∀ f ∈ done, GuardIs f.a f.e.g f.want ∧ ∀ d w, f.e.g = some (d, w) → d ∈ f.e.rd
theorem DI.cons {done : List Stp} {x : Stp} (h : DI done x.a) (hx : SF P base G done x) : DI (x :: done) x.a1 where
  keep := fun l1 f l2 e t h1 h2 => by
    cases l1 with
    | nil =>
      simp only [List.nil_append, List.cons.injEq] at e
      obtain ⟨rfl, rfl⟩ := e
      rw [hx.put, if_neg h1]
    | cons y l1 =>
      simp only [List.cons_append, List.cons.injEq] at e
      obtain ⟨rfl, e⟩ := e
      rw [hx.put, if_neg (h2 _ List.mem_cons_self)]
      exact h.keep l1 f l2 e t h1 fun g hg => h2 g (List.mem_cons_of_mem _ hg)
  val := fun f hf d hd => by
    cases hf with
    | head => rw [hx.put, if_pos hd]
    | tail _ hf =>
      rw [hx.put, if_neg]
      · exact h.val f hf d hd
      · intro e
        exact hx.ne f hf d e hd
  anc := fun l1 f l2 e j hj => by
    cases l1 with
    | nil =>
      simp only [List.nil_append, List.cons.injEq] at e
      obtain ⟨rfl, rfl⟩ := e
      obtain ⟨d, hd, h1⟩ := (hx.anc j).1 hj
      rcases h1 with rfl | ⟨y, hy, _, hb⟩
      · exact hx.deps j hd
      · obtain ⟨m1, m2, rfl⟩ := List.append_of_mem hy
        obtain ⟨z, hz, hz2⟩ := h.anc m1 y m2 rfl j hb
        exact ⟨z, List.mem_append_right _ (List.mem_cons_of_mem _ hz), hz2⟩
    | cons y l1 =>
      simp only [List.cons_append, List.cons.injEq] at e
      obtain ⟨_, e⟩ := e
      exact h.anc l1 f l2 e j hj
  ne := List.pairwise_cons.2 ⟨fun y hy => (hx.fresh y hy).symm, h.ne⟩
  gd := fun f hf => by
    cases hf with
    | head => exact ⟨hx.guard, hx.grd⟩
    | tail _ hf => exact h.gd f hf
theorem lastLoud_mem : ∀ {l : List Ent} {j : Nat}, lastLoud l = some j → ∃ e ∈ l, e.i = j ∧ loud e.o.op = true
  | [], _, h => by cases h
  | e :: l, j, h => by
    unfold lastLoud at h
    cases hl : loud e.o.op
    · rw [hl] at h
      obtain ⟨f, h1, h2⟩ := lastLoud_mem h
      exact ⟨f, List.mem_cons_of_mem _ h1, h2⟩
    · rw [hl] at h; cases h
      exact ⟨e, List.mem_cons_self, rfl, hl⟩
theorem reOf_cons {done : List Ent} {tb : List (Nat × Nat)} {m : Nat} (g : Ent) (l : List Ent) :
    reOf done tb m (g :: l) = bif reads g.o.op && !(loud g.o.op) && !(m.testBit g.i) then g :: reOf done tb m l else reOf done tb m l := rfl
theorem reOf_mem {done : List Ent} {tb : List (Nat × Nat)} {m : Nat} {f : Ent} (h1 : reads f.o.op = true) (h2 : loud f.o.op = false) (h3 : m.testBit f.i = false) : ∀ l : List Ent, f ∈ l → f ∈ reOf done tb m l := by
  intro l
  induction l with
  | nil => intro h; cases h
  | cons g l ih =>
    intro hf
    rw [reOf_cons]
    cases hf with
    | head => rw [h1, h2, h3]; exact List.mem_cons_self
    | tail _ hf =>
      generalize (reads g.o.op && !(loud g.o.op) && !(m.testBit g.i)) = b
      cases b
      · exact ih hf
      · exact List.mem_cons_of_mem _ (ih hf)
theorem reOf_sub {done : List Ent} {tb : List (Nat × Nat)} {m : Nat} {f : Ent} : ∀ l : List Ent, f ∈ reOf done tb m l → f ∈ l ∧ m.testBit f.i = false ∧ loud f.o.op = false := by
  intro l
  induction l with
  | nil => intro h; cases h
  | cons g l ih =>
    intro hf
    rw [reOf_cons] at hf
    generalize hb : (reads g.o.op && !(loud g.o.op) && !(m.testBit g.i)) = b at hf
    cases b
    · obtain ⟨h1, h2⟩ := ih hf
      exact ⟨List.mem_cons_of_mem _ h1, h2⟩
    · simp only [Bool.and_eq_true, Bool.not_eq_true'] at hb
      cases hf with
      | head => exact ⟨List.mem_cons_self, hb.2, hb.1.2⟩
      | tail _ hf =>
        obtain ⟨h1, h2⟩ := ih hf
        exact ⟨List.mem_cons_of_mem _ h1, h2⟩
/-- What is read again is as it was. -/
theorem againK_of {a : Fr} {s : St} (hs : s.Ok) : ∀ {re : List Ent} {k : Unit → Bool}, (∀ f ∈ re, loud f.o.op = false) → againK P ih re a s k = true →
    k () = true ∧ ∀ f ∈ re, GuardIs a f.g false ∨ ∃ d, f.o.dst = some d ∧ (StepP P base f.o a (a.at d) ∨ StepR P base f.o a s (a.at d))
  | [], k, _, h => ⟨h, fun f hf => by cases hf⟩
  | e :: re, k, hq, h => by
    have h : guardK a e.g (fun _ => evOp e.o.op P ih e.o a s fun v _ s' => bif Nat.beq s'.next s.next then optK e.o.dst fun d => bif eqV v (a.at d) then againK P ih re a s k else false else false) (fun _ => againK P ih re a s k) = true := h
    rcases guardIs_of h with ⟨h1, h2⟩ | ⟨h1, h2⟩
    · obtain ⟨v, s', h3, h4⟩ := evOp_quiet (base := base) (hq e List.mem_cons_self) hs h2
      obtain ⟨g1, h5⟩ := cond_of h4
      obtain ⟨d, hd, h6⟩ := optK_of h5
      obtain ⟨g2, h7⟩ := cond_of h6
      have := eqV_of g2; subst this
      obtain ⟨h8, h9⟩ := againK_of hs (fun f hf => hq f (List.mem_cons_of_mem _ hf)) h7
      refine ⟨h8, fun f hf => ?_⟩
      cases hf with
      | head =>
        refine .inr ⟨d, hd, ?_⟩
        rcases h3 with (⟨_, h3⟩ | ⟨X, hn, _⟩) | ⟨_, _, h3⟩
        · exact .inl h3
        · have := beqN_true g1
          rw [hn.next] at this
          omega
        · exact .inr h3
      | tail _ hf => exact h9 f hf
    · obtain ⟨h8, h9⟩ := againK_of hs (fun f hf => hq f (List.mem_cons_of_mem _ hf)) h2
      refine ⟨h8, fun f hf => ?_⟩
      cases hf with
      | head => exact .inl h1
      | tail _ hf => exact h9 f hf
theorem plan_zero {es done : List Ent} {tb : List (Nat × Nat)} {l : List PO} (h : plan es 0 done tb = some l) : l = [] ∧ ∀ e ∈ es, ∃ f ∈ done, f.i = e.i := by
  have h : (bif es.all (fun e => hasEnt e.i done) then some [] else none) = some l := h
  cases hb : es.all (fun e => hasEnt e.i done)
  · rw [hb] at h; cases h
  · rw [hb] at h; cases h
    rw [List.all_eq_true] at hb
    exact ⟨rfl, fun e he => hasEnt_of (hb e he)⟩
theorem plan_succ {es done : List Ent} {tb : List (Nat × Nat)} {n : Nat} {l : List PO} (h : plan es (n + 1) done tb = some l) :
    ∃ e l', e ∈ es ∧ entOk done (ancOf tb e.deps) e = true ∧ (bif loud e.o.op then reOf done tb (ancOf tb e.deps) done else []).all (reOk done tb) = true ∧
      plan es n (e :: done) ((e.i, ancOf tb e.deps) :: tb) = some l' ∧ l = ⟨e.o, e.g, bif loud e.o.op then reOf done tb (ancOf tb e.deps) done else []⟩ :: l' := by
  unfold plan at h
  have key : ∀ e : Ent, e ∈ es → (bif entOk done (ancOf tb e.deps) e && (bif loud e.o.op then reOf done tb (ancOf tb e.deps) done else []).all (reOk done tb) then match plan es n (e :: done) ((e.i, ancOf tb e.deps) :: tb) with
        | some l => some (⟨e.o, e.g, bif loud e.o.op then reOf done tb (ancOf tb e.deps) done else []⟩ :: l)
        | none => none
      else none) = some l → ∃ e l', e ∈ es ∧ entOk done (ancOf tb e.deps) e = true ∧ (bif loud e.o.op then reOf done tb (ancOf tb e.deps) done else []).all (reOk done tb) = true ∧
      plan es n (e :: done) ((e.i, ancOf tb e.deps) :: tb) = some l' ∧ l = ⟨e.o, e.g, bif loud e.o.op then reOf done tb (ancOf tb e.deps) done else []⟩ :: l' := by
    intro e he h
    cases hb : (entOk done (ancOf tb e.deps) e && (bif loud e.o.op then reOf done tb (ancOf tb e.deps) done else []).all (reOk done tb))
    · rw [hb] at h; cases h
    · rw [hb, cond_true] at h
      simp only [Bool.and_eq_true] at hb
      cases hp : plan es n (e :: done) ((e.i, ancOf tb e.deps) :: tb) with
      | none => rw [hp] at h; cases h
      | some l' => rw [hp] at h; cases h; exact ⟨e, l', he, hb.1, hb.2, hp, rfl⟩
  cases h1 : pick1 true done es with
  | some e => rw [h1] at h; exact key e (pick1_mem h1) h
  | none =>
    rw [h1] at h
    cases h2 : pick1 false done es with
    | some e => rw [h2] at h; exact key e (pick1_mem h2) h
    | none => rw [h2] at h; cases h
theorem trace_of (hih : CallsOk P base G ih) {es : List Ent} (hes : ∀ e ∈ es, ∀ d w, e.g = some (d, w) → d ∈ e.rd) : ∀ (n : Nat) (done : List Stp) (a : Fr) (s : St) (l : List PO) (k : KE), plan es n (done.map (·.e)) (done.map fun x => (x.e.i, x.anc)) = some l → s.Ok → DI done a →
    evOps P ih l a s k = true → ∃ tr a' s', k .normal a' s' = true ∧ s'.Ok ∧ Good P base G done a s tr a' s' ∧ (∀ x ∈ tr, x.e ∈ es) ∧ (∀ e ∈ es, ∃ x, (x ∈ tr ∨ x ∈ done) ∧ x.e.i = e.i) ∧ tr.length ≤ n
  | 0, done, a, s, l, k, hp, hs, hd, h => by
    obtain ⟨rfl, hc⟩ := plan_zero hp
    refine ⟨[], a, s, h, hs, ⟨rfl, rfl⟩, fun x hx => (by cases hx), fun e he => ?_, Nat.le_refl _⟩
    obtain ⟨f, hf, h1⟩ := hc e he
    obtain ⟨x, hx, rfl⟩ := List.mem_map.1 hf
    exact ⟨x, .inr hx, h1⟩
  | n + 1, done, a, s, l, k, hp, hs, hd, h => by
    obtain ⟨e, l', he, g1, g2, hp', rfl⟩ := plan_succ hp
    have h : evPO P ih ⟨e.o, e.g, bif loud e.o.op then reOf (done.map (·.e)) (done.map fun x => (x.e.i, x.anc)) (ancOf (done.map fun x => (x.e.i, x.anc)) e.deps) (done.map (·.e)) else []⟩ a s (fun a s => evOps P ih l' a s k) = true := h
    unfold evPO at h
    generalize hm : ancOf (done.map fun x => (x.e.i, x.anc)) e.deps = m at *
    have hbit : ∀ j, m.testBit j = true ↔ ∃ d ∈ e.deps, j = d ∨ ∃ y ∈ done, y.e.i = d ∧ y.anc.testBit j = true := fun j => by rw [← hm]; exact ancOf_bit hd.ne e.deps j
    unfold entOk at g1
    simp only [Bool.and_eq_true, Bool.not_eq_true', List.all_eq_true, Bool.or_eq_true] at g1
    obtain ⟨⟨⟨q1, q2⟩, q3⟩, q4⟩ := g1
    have deps : ∀ d ∈ e.deps, ∃ y ∈ done, y.e.i = d := fun d hdd => by
      obtain ⟨f, hf, h1⟩ := allDone_of q1 d hdd
      obtain ⟨y, hy, rfl⟩ := List.mem_map.1 hf
      exact ⟨y, hy, h1⟩
    have fresh : ∀ y ∈ done, y.e.i ≠ e.i := fun y hy hyi => by
      rw [hasEnt_mem ⟨y.e, List.mem_map_of_mem hy, hyi⟩] at q2; cases q2
    have last : ∀ j, lastLoud (done.map (·.e)) = some j → m.testBit j = true := fun j hj => by rw [hj] at q3; exact q3
    have pair : ∀ y ∈ done, (isDst y.e.o e.rd = true → m.testBit y.e.i = true) ∧ (isDst e.o y.e.rd = true → m.testBit y.e.i = true) ∧ ∀ d, e.o.dst = some d → y.e.o.dst ≠ some d := fun y hy => by
      obtain ⟨⟨p1, p2⟩, p3⟩ := q4 y.e (List.mem_map_of_mem hy)
      refine ⟨fun h => p1.resolve_left (by rw [h]; decide), fun h => p2.resolve_left (by rw [h]; decide), fun d h1 h2 => ?_⟩
      unfold dstNe at p3
      rw [h1, h2] at p3
      have p3 : (!(Nat.beq d d)) = true := p3
      rw [beqN] at p3
      simp at p3
    -- the step itself
    have fin : ∀ (x : Stp), x.e = e → x.a = a → x.s = s → x.anc = m → SF P base G done x → evOps P ih l' x.a1 x.s1 k = true →
        ∃ tr a' s', k .normal a' s' = true ∧ s'.Ok ∧ Good P base G done a s tr a' s' ∧ (∀ x ∈ tr, x.e ∈ es) ∧ (∀ e ∈ es, ∃ x, (x ∈ tr ∨ x ∈ done) ∧ x.e.i = e.i) ∧ tr.length ≤ n + 1 := by
      intro x e1 e2 e3 e4 hx hr
      subst e1
      have hd' : DI (x :: done) x.a1 := DI.cons (by rw [e2]; exact hd) hx
      obtain ⟨tr, a', s', t1, t2, t3, t4, t5, t6⟩ := trace_of hih hes n (x :: done) x.a1 x.s1 l' k (by simp only [List.map_cons, e4]; exact hp') hx.ok1 hd' hr
      refine ⟨x :: tr, a', s', t1, t2, ⟨e2, e3, hx, t3⟩, fun y hy => ?_, fun f hf => ?_, Nat.succ_le_succ t6⟩
      · cases hy with
        | head => exact he
        | tail _ hy => exact t4 y hy
      · obtain ⟨y, hy, hyi⟩ := t5 f hf
        refine ⟨y, ?_, hyi⟩
        rcases hy with hy | hy
        · exact .inl (List.mem_cons_of_mem _ hy)
        · cases hy with
          | head => exact .inl List.mem_cons_self
          | tail _ hy => exact .inr hy
    rcases guardIs_of h with ⟨hg, h1⟩ | ⟨hg, h1⟩
    · cases hl : loud e.o.op
      · obtain ⟨v, s₁, hq, h2⟩ := evOp_quiet (base := base) hl hs h1
        obtain ⟨a₁, hput, h3⟩ := putT_of h2
        have h3 : againK P ih (bif loud e.o.op then reOf (done.map (·.e)) (done.map fun x => (x.e.i, x.anc)) m (done.map (·.e)) else []) a₁ s₁ (fun _ => evOps P ih l' a₁ s₁ k) = true := h3
        rw [hl] at h3
        refine fin ⟨e, a, s, v, a₁, s₁, m, true⟩ rfl rfl rfl rfl ?_ h3
        exact ⟨hs, deps, fresh, hbit, last, fun y hy => (pair y hy).1, fun y hy => (pair y hy).2.1, fun y hy => (pair y hy).2.2, hput.tm, hput.n, hput.lt, hg, hes e he, .inr (.inl ⟨rfl, hl, hq, hput.defers⟩), hq.ok hs, hq.up⟩
      · obtain ⟨v, a₀, s₁, hst, h2⟩ := evOp_any hih hs h1
        obtain ⟨a₁, hput, h3⟩ := putT_of h2
        have h3 : againK P ih (bif loud e.o.op then reOf (done.map (·.e)) (done.map fun x => (x.e.i, x.anc)) m (done.map (·.e)) else []) a₁ s₁ (fun _ => evOps P ih l' a₁ s₁ k) = true := h3
        rw [hl, cond_true] at h3
        rw [hl, cond_true] at g2
        have hok1 := hst.2.2.1.2 hs
        obtain ⟨h4, h5⟩ := againK_of (base := base) hok1 (fun f hf => (reOf_sub _ hf).2.2) h3
        have htm : ∀ t, a₁.at t = if e.o.dst = some t then v else a.at t := fun t => by
          rw [hput.tm]
          have : a₀.at t = a.at t := by unfold Fr.at; rw [hst.2.1]
          rw [this]
        refine fin ⟨e, a, s, v, a₁, s₁, m, true⟩ rfl rfl rfl rfl ?_ h4
        refine ⟨hs, deps, fresh, hbit, last, fun y hy => (pair y hy).1, fun y hy => (pair y hy).2.1, fun y hy => (pair y hy).2.2, htm, hput.n.trans hst.1, fun d hdd => by rw [← hst.1]; exact hput.lt d hdd, hg, hes e he, .inr (.inr ⟨rfl, hl, ⟨a₀, hput.defers.symm, hst⟩, ?_⟩), hok1, hst.2.2.1⟩
        intro f hf r1 r2 r3 r4
        have hre := reOf_mem (done := done.map (·.e)) (tb := done.map fun x => (x.e.i, x.anc)) r1 r2 r3 (done.map (·.e)) (List.mem_map_of_mem hf)
        have hrk := (List.all_eq_true.1 g2) f.e hre
        unfold reOk at hrk
        simp only [Bool.and_eq_true, Bool.not_eq_true', List.all_eq_true, Bool.or_eq_true] at hrk
        obtain ⟨k1, k2⟩ := hrk
        obtain ⟨m1, m2, hsplit⟩ := List.append_of_mem hf
        have stay : ∀ t ∈ f.e.rd, a₁.at t = f.a.at t := fun t ht => by
          rw [htm, if_neg]
          · refine hd.keep m1 f m2 hsplit t (fun hfd => by rw [isDst_of hfd ht] at k1; cases k1) fun g hgm hgd => ?_
            have hgdone : g ∈ done := by rw [hsplit]; exact List.mem_append_left _ hgm
            have hb := (k2 g.e (List.mem_map_of_mem hgdone)).resolve_left (by rw [isDst_of hgd ht]; decide)
            rw [maskOf_mem hd.ne hf] at hb
            obtain ⟨y, hy, hyi⟩ := hd.anc m1 f m2 hsplit _ hb
            have hne := hd.ne
            rw [hsplit] at hne
            exact (List.pairwise_append.1 hne).2.2 g hgm y (List.mem_cons_of_mem _ hy) hyi.symm
          · intro hxd
            have := (pair f hf).2.1 (isDst_of hxd ht)
            rw [this] at r3; cases r3
        refine ⟨stay, ?_⟩
        obtain ⟨gd1, gd2⟩ := hd.gd f hf
        rcases h5 f.e hre with hgf | ⟨d, hfd, hst2⟩
        · have := guardIs_fun (a := a₁) (b := f.a) (fun d w hdw => stay d (gd2 d w hdw)) hgf gd1
          rw [r4] at this; cases this
        · have hv : a₁.at d = f.v := by
            rw [htm, if_neg (fun hxd => (pair f hf).2.2 d hxd hfd)]
            exact hd.val f hf d hfd
          rw [hv] at hst2
          exact hst2
    · obtain ⟨a₁, hput, h3⟩ := putT_of h1
      refine fin ⟨e, a, s, .tuple #[], a₁, s, m, false⟩ rfl rfl rfl rfl ?_ h3
      exact ⟨hs, deps, fresh, hbit, last, fun y hy => (pair y hy).1, fun y hy => (pair y hy).2.1, fun y hy => (pair y hy).2.2, hput.tm, hput.n, hput.lt, hg, hes e he, .inl ⟨rfl, rfl, rfl, hput.defers⟩, hs, St.Up.refl _⟩
end
end Go.Ev
