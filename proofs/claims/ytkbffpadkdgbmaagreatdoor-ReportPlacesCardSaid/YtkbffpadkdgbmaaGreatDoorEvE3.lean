import Derived.Test.YtkbffpadkdgbmaaGreatDoorEvE2
/- Calls, deferred calls; the theorem. -/
namespace Go.Ev
open Go Go.RowKit Go.Lib
set_option linter.unusedVariables false
set_option linter.unusedSimpArgs false
set_option linter.deprecated false

section
variable {P : Program} {base : Nat} {G : List Nat} {σ τ : Emb} {s t : St} {w w' : World} {a b : Fr} {A : Act} {o : Oper} {v v' : Value} {ih : IH} {c : Code}

theorem argsT_of : ∀ {l : List Value} {i : Nat} {t : T Value} {k : T Value → Bool}, argsT l i t k = true →
    ∃ t', k t' = true ∧ ∀ j, T.get (.tuple #[]) (path j) t' = if i ≤ j ∧ j < i + l.length then l.getD (j - i) (.tuple #[]) else T.get (.tuple #[]) (path j) t
  | [], i, t, k, h => ⟨t, h, fun j => by rw [if_neg]; simp only [List.length_nil]; omega⟩
  | v :: l, i, t, k, h => by
    obtain ⟨t1, h1, h2⟩ := T.set_of (n := i) (show T.setK (.tuple #[]) v (path i) t (fun t => argsT l (Nat.succ i) t k) = true from h)
    obtain ⟨t', h3, h4⟩ := argsT_of (l := l) h1
    refine ⟨t', h3, fun j => ?_⟩
    rw [h4, h2]
    by_cases hj : j = i
    · subst hj
      rw [if_neg (by omega), if_pos rfl, if_pos (by simp)]
      simp
    · by_cases hj2 : i + 1 ≤ j ∧ j < i + 1 + l.length
      · rw [if_pos hj2, if_pos (by simp only [List.length_cons]; omega)]
        obtain ⟨d, hd⟩ : ∃ d, j - i = d + 1 := ⟨j - i - 1, by omega⟩
        rw [hd, show j - i.succ = d by omega]
        rfl
      · rw [if_neg hj2, if_neg hj, if_neg (by simp only [List.length_cons]; omega)]
/-- A frame as it is entered. -/
theorem enter_rel {args : List Value} {args' : Array Value} {n : Nat} {t : T Value} (hr : HR P base σ s w) (hg : Gl G σ) (hF : F2 (VR σ) args args'.toList)
    (ht : ∀ j, T.get (.tuple #[]) (path j) t = if 0 ≤ j ∧ j < 0 + args.length then args.getD (j - 0) (.tuple #[]) else T.get (.tuple #[]) (path j) (.leaf : T Value)) :
    Rel P base G σ ⟨n, t, []⟩ s { tmps := args' ++ Array.replicate (n - args'.size) undef, defers := [] } w where
  hr := hr
  gl := hg
  n := by simp; omega
  tm := fun j => by
    show VR σ (T.get _ (path j) t) _
    rw [ht]
    have hl := hF.length
    simp only [Array.length_toList] at hl
    by_cases hj : j < args.length
    · rw [if_pos (by omega)]
      have hj' : j < args'.size := by omega
      obtain ⟨v', h1, h2⟩ := hF.get j (a := args[j]) (by simp [hj])
      have e1 : args.getD (j - 0) (.tuple #[]) = args[j] := by simp [List.getD, hj]
      have e2 : (args' ++ Array.replicate (n - args'.size) undef).getD j undef = v' := by
        simp only [Array.getD_eq_getD_getElem?]
        rw [Array.getElem?_append_left hj', ← Array.getElem?_toList, h1]
        rfl
      rw [e1, e2]
      exact h2
    · rw [if_neg (by omega), T.get_leaf]
      have : (args' ++ Array.replicate (n - args'.size) undef).getD j undef = undef := by
        simp only [Array.getD_eq_getD_getElem?]
        rw [Array.getElem?_append_right (by omega), Array.getElem?_replicate]
        split <;> rfl
      rw [this]
      exact tupV
  df := rfl
theorem doneK_of {e : Ex} {k : Unit → Bool} (h : doneK e k = true) : (e = .normal ∨ e = .ret) ∧ k () = true := by
  cases e with
  | normal => exact ⟨.inl rfl, h⟩
  | exit i => exact no h
  | ret => exact ⟨.inr rfl, h⟩
  | val v => exact no h

/-! Deferred calls. -/
def CodeStepS (P : Program) (base : Nat) (G : List Nat) (c : Code) (a : Fr) (s : St) (e : Ex) (a' : Fr) (s' : St) : Prop :=
  s'.Ok ∧ s.Up s' ∧ ∀ σ A w (cs : List Frame) (Q : Exit → Act → List Frame → World → Prop), recoverD cs = none → Rel P base G σ a s A w → (∀ X τ A' w', ExR e X → Ext σ s τ s' → Rel P base G τ a' s' A' w' → Below base w w' → Q X A' cs w') → c.wpS P Q A cs w
theorem CodeStep.toS {e : Ex} (h : CodeStep P base G c a s e b t) : CodeStepS P base G c a s e b t :=
  ⟨h.1, h.2.1, fun σ A w cs Q _ hr hq => wpS_of_wp (gwp_wp (h.2.2 σ A w _ hr hq))⟩
theorem recoverOf_of {ops : Array Oper} {d : Option Nat} (h : recoverOf ops.toList = some d) : ∃ o c, ops = #[o] ∧ o.op = .call c ∧ c.callee = .builtin .recover ∧ o.guard = none ∧ o.dst = d := by
  unfold recoverOf at h
  split at h
  · rename_i o ho
    split at h
    · rename_i c hop hg
      split at h
      · rename_i hc
        cases h
        exact ⟨o, c, Array.ext' ho, hop, hc, hg, rfl⟩
      · cases h
    · cases h
  · cases h
theorem evS_of (hcodes : CodesOk P base G ih) : ∀ (c : Code) (a : Fr) (s : St) (k : KE), s.Ok → evS c P ih a s k = true → ∃ e a' s', k e a' s' = true ∧ (∀ v, e ≠ .val v) ∧ CodeStepS P base G c a s e a' s' := by
  intro c
  have lift : ∀ {c : Code} {a : Fr} {s : St} {k : KE}, s.Ok → ih (.code c) a s k = true → ∃ e a' s', k e a' s' = true ∧ (∀ v, e ≠ .val v) ∧ CodeStepS P base G c a s e a' s' := fun hs h => by
    obtain ⟨e, a', s', h1, h2, h3⟩ := hcodes _ _ _ _ hs h
    exact ⟨e, a', s', h1, h2, h3.toS⟩
  induction c with
  | skip => intro a s k hs h; exact lift hs h
  | region id ops draw =>
    intro a s k hs h
    cases draw with
    | true => exact lift hs h
    | false =>
      have h : (Option.rec (motive := fun _ => Bool) (ih (.code (.region id ops false)) a s k) (fun d => putT a d .nilIface fun a => k .normal a s) (recoverOf ops.toList)) = true := h
      cases hro : recoverOf ops.toList with
      | none => rw [hro] at h; exact lift hs h
      | some d =>
        rw [hro] at h
        obtain ⟨b, hput, h1⟩ := putT_of h
        obtain ⟨o, c, rfl, e1, e2, e3, e4⟩ := recoverOf_of hro
        refine ⟨.normal, b, s, h1, fun v e => (by cases e), hs, St.Up.refl s, fun σ A w cs Q hrec hr hq => wpS_region ?_⟩
        have hrun : (execOp A.eval o).run P w = .ok .recover w := by
          simp only [execOp, e1, resolve, e2]
          rfl
        show wpOpsS P #[o] Q [0] A cs w
        have hw : Region.wanted o (yielded #[o] A.tmps) = true := by simp [Region.wanted, e3]
        simp only [wpOpsS, List.getElem?_toArray, List.getElem?_cons_zero]
        rw [if_pos hw, hrun]
        simp only [hrec]
        subst e4
        exact hq _ σ _ w trivial (Ext.refl σ s) (hr.put hput (by simp only [VR])) (Below.refl _ _)
  | seq x y ihx ihy =>
    intro a s k hs h
    obtain ⟨e1, a1, s1, h1, h2, h3, h4, h5⟩ := ihx a s _ hs (show evS x P ih a s (fun e a s => thenK e (fun a s => ih (.code y) a s k) k a s) = true from h)
    rcases thenK_of h2 h1 with ⟨rfl, h6⟩ | ⟨h6, h7⟩
    · obtain ⟨e2, a2, s2, h7, h8, h9, h10, h11⟩ := lift h3 h6
      refine ⟨e2, a2, s2, h7, h8, h9, h4.trans h10, fun σ A w cs Q hrec hr hq => wpS_seq (h5 σ A w cs _ hrec hr fun X τ A' w' x1 x2 x3 x4 => ?_)⟩
      cases X <;> first | exact x1.elim | skip
      exact h11 τ A' w' cs Q hrec x3 fun X υ A'' w'' y1 y2 y3 y4 => hq X υ A'' w'' y1 (x2.trans y2) y3 (x4.trans y4)
    · refine ⟨e1, a1, s1, h7, h2, h3, h4, fun σ A w cs Q hrec hr hq => wpS_seq (h5 σ A w cs _ hrec hr fun X τ A' w' x1 x2 x3 x4 => ?_)⟩
      have := hq X τ A' w' x1 x2 x3 x4
      cases X <;> first
        | exact this
        | (cases e1 <;> first | exact absurd rfl h6 | exact x1.elim)
  | cond q x y _ _ => intro a s k hs h; exact lift hs h
  | block id d _ => intro a s k hs h; exact lift hs h
  | loop d _ => intro a s k hs h; exact lift hs h
  | rangeFunc _ _ _ _ _ _ => intro a s k _ h; exact no h
  | exit _ => intro a s k _ h; exact no h
  | scope _ _ => intro a s k _ h; exact no h
  | label _ => intro a s k _ h; exact no h
  | goto _ => intro a s k _ h; exact no h
  | ret => intro a s k hs h; exact ⟨.ret, a, s, h, fun v e => (by cases e), hs, St.Up.refl s, fun σ A w cs Q _ hr hq => wpS_of_wp (wp_ret (hq _ σ A w trivial (Ext.refl σ s) hr (Below.refl _ _)))⟩
  | refuse _ => intro a s k _ h; exact no h
theorem deferred_of (hcodes : CodesOk P base G ih) {g : FuncId} {args : List Value} {k : St → Bool} (hs : s.Ok) (h : evDeferred P ih g args s k = true) :
    ∃ s', k s' = true ∧ s'.Ok ∧ s.Up s' ∧ ∃ fn, P.funcs[g]? = some fn ∧ fn.body.isSome = true ∧ ∀ σ w (args' : Array Value) (R : Ending → FrameMode → World → Prop), HR P base σ s w → Gl G σ → F2 (VR σ) args args'.toList →
      (∀ τ v' w', Ext σ s τ s' → HR P base τ s' w' → Below base w w' → R (.returned v') .returning w') → CallsD P g args' .returning w R := by
  obtain ⟨fn, hf, h1⟩ := optK_of h
  obtain ⟨c, hb, h2⟩ := optK_of h1
  obtain ⟨t, h3, ht⟩ := argsT_of h2
  obtain ⟨e, a', s', h4, h5, h6, h7, h8⟩ := evS_of hcodes c _ _ _ hs h3
  obtain ⟨h9, h10⟩ := doneK_of h4
  obtain ⟨h11, h12⟩ := cond_of h10
  have hdef := nilL_of h11
  obtain ⟨vs, h13, h14⟩ := results_of (base := base) h6 h12
  refine ⟨s', h13, h6, h7, fn, hf, by rw [hb]; rfl, fun σ w args' R hr hg hF hR => callsD_of_wpS hf hb fun c₀ cs hc₀ => ?_⟩
  have hrec : recoverD (c₀ :: cs) = none := by simp [recoverD, hc₀]
  refine h8 σ _ w (c₀ :: cs) _ hrec (enter_rel hr hg hF ht) fun X τ A' w' x1 x2 x3 x4 => ?_
  obtain ⟨v', r1, r2⟩ := h14 τ A' w' x3.hr x3.tm
  have hA : A'.defers = [] := by have := x3.df; rw [hdef] at this; exact this
  have hc0 : c₀ = { c₀ with mode := .returning } := by rw [← hc₀]
  have : X = .normal ∨ X = .ret := by
    rcases h9 with rfl | rfl <;> cases X <;> first | exact .inl rfl | exact .inr rfl | exact x1.elim
  rcases this with rfl | rfl
  · exact ⟨hA, .returning, by rw [← hc0], v', r2, hR τ v' w' x2 x3.hr x4⟩
  · exact ⟨hA, .returning, by rw [← hc0], v', r2, hR τ v' w' x2 x3.hr x4⟩
theorem undefer_of (hcodes : CodesOk P base G ih) : ∀ {l : List (FuncId × List Value)} {s : St} {k : St → Bool}, s.Ok → evUndefer P ih l s k = true →
    ∃ s', k s' = true ∧ s'.Ok ∧ s.Up s' ∧ ∀ σ w D fn tmps R, HR P base σ s w → Gl G σ → F2 (DR P σ) l D → (∀ τ w', Ext σ s τ s' → HR P base τ s' w' → Below base w w' → Leaves P fn tmps R [] .returning w') → Leaves P fn tmps R D .returning w
  | [], s, k, hs, h => ⟨s, h, hs, St.Up.refl s, fun σ w D fn tmps R hr _ hD hq => by
      have : D = [] := hD
      subst this
      exact hq σ w (Ext.refl σ s) hr (Below.refl _ _)⟩
  | (g, args) :: l, s, k, hs, h => by
    obtain ⟨s1, h1, h2, h3, fn1, hf, hb, h4⟩ := deferred_of hcodes hs (show evDeferred P ih g args s (fun s => evUndefer P ih l s k) = true from h)
    obtain ⟨s', h5, h6, h7, h8⟩ := undefer_of hcodes h2 h1
    refine ⟨s', h5, h6, h3.trans h7, fun σ w D fn tmps R hr hg hD hq => ?_⟩
    obtain ⟨d, D', rfl, ⟨cap, dargs, rfl, e2, e3⟩, hD'⟩ := hD
    obtain ⟨fn2, hf2, hn2⟩ := isGor_of e3
    simp only at hf2 e2
    have : fn2 = fn1 := by rw [hf] at hf2; cases hf2; rfl
    subst this
    refine leaves_cons (f := g) (args := dargs ++ cap) (fun e => by cases e) (enter_run hf hn2 hb) (h4 σ w (dargs ++ cap) _ hr hg (by simpa using e2) fun τ v' w' x1 x2 x3 => ?_)
    show Leaves P fn tmps R D' .returning w'
    exact h8 τ w' D' fn tmps R x2 (Gl.mono x1.le hg) (hD'.mono fun _ _ => DR.mono x1.le) fun υ w'' y1 y2 y3 => hq υ w'' (x1.trans y1) y2 (x3.trans y3)
theorem enter_of (hcodes : CodesOk P base G ih) {g : FuncId} {args : List Value} {k : KE} (hs : s.Ok) (h : evEnter P ih g args s k = true) : ∃ v a' s', k (.val v) a' s' = true ∧ CallStep P base G g args s v s' := by
  obtain ⟨fn, hf, h1⟩ := optK_of h
  obtain ⟨c, hb, h2⟩ := optK_of h1
  obtain ⟨t, h3, ht⟩ := argsT_of h2
  obtain ⟨e, a', s', h4, h5, h6, h7, h8⟩ := hcodes _ _ _ _ hs h3
  obtain ⟨h9, h10⟩ := doneK_of h4
  obtain ⟨s2, h11, h12, h13, h14⟩ := undefer_of hcodes h6 (show evUndefer P ih a'.defers s' (fun s => resultsK P a' s fn.results.toList fun vs => k (.val (oneOr vs)) a' s) = true from h10)
  obtain ⟨vs, h15, h16⟩ := results_of (base := base) h12 h11
  refine ⟨oneOr vs, a', s2, h15, h7.trans h13, fun σ w args' _ hg hr hF => calls_of_wp_defers hf hb (gwp_wp (h8 σ _ w _ (enter_rel hr hg hF ht) fun X τ A' w' x1 x2 x3 x4 => ?_))⟩
  have key : Leaves P fn A'.tmps (fun e w' => ∃ v' τ, e = .returned v' ∧ VR τ (oneOr vs) v' ∧ Ext σ s τ s2 ∧ HR P base τ s2 w' ∧ Below base w w') A'.defers .returning w' := by
    refine h14 τ w' A'.defers fn A'.tmps _ x3.hr x3.gl x3.df fun υ w'' y1 y2 y3 => ?_
    obtain ⟨v', r1, r2⟩ := h16 υ A' w'' y2 (fun t => VR.mono y1.le _ _ (x3.tm t))
    exact ⟨v', r2, v', υ, rfl, r1, x2.trans y1, y2, x4.trans y3⟩
  rcases h9 with rfl | rfl <;> cases X <;> first | exact key | exact x1.elim
/-- The evaluator is sound, whatever its fuel. -/
theorem ev_ok (hm : P.follows .mixedOrders = true) (base : Nat) : ∀ n, CallsOk P base G (ev G P n) ∧ CodesOk P base G (ev G P n)
  | 0 => ⟨fun _ _ _ _ _ _ h => no h, fun _ _ _ _ _ h => no h⟩
  | n + 1 => by
    obtain ⟨h1, h2⟩ := ev_ok hm base n
    exact ⟨fun g args a s k hs h => enter_of h2 hs h, fun c a s k hs h => code_of hm h1 h2 hs h⟩
end
end Go.Ev
