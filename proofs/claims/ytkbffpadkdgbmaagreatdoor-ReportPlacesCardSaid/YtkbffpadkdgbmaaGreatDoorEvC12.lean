import Derived.Test.YtkbffpadkdgbmaaGreatDoorEvC11
import Derived.Room.MakeNoZero
import Derived.KernelRfl
/- Calls; every operation. -/
namespace Go.Ev
open Go Go.RowKit Go.Lib
set_option linter.unusedVariables false
set_option linter.unusedSimpArgs false
set_option linter.deprecated false

/-- A call, told by its result. -/
theorem Gl.mono {G : List Nat} {σ τ : Emb} (hl : Emb.le σ τ) (h : Gl G σ) : Gl G τ := fun g hg => by obtain ⟨x, hx⟩ := h g hg; exact ⟨x, hl _ _ hx⟩
def CallStep (P : Program) (base : Nat) (G : List Nat) (g : FuncId) (args : List Value) (s : St) (v : Value) (s' : St) : Prop :=
  s.Up s' ∧ ∀ σ w args', s.Ok → Gl G σ → HR P base σ s w → F2 (VR σ) args args'.toList → Calls P g args' w fun e w' => ∃ v' τ, e = .returned v' ∧ VR τ v v' ∧ Ext σ s τ s' ∧ HR P base τ s' w' ∧ Below base w w'
def CallsOk (P : Program) (base : Nat) (G : List Nat) (ih : IH) : Prop := ∀ g args a s k, s.Ok → ih (.call g args) a s k = true → ∃ v a' s', k (.val v) a' s' = true ∧ CallStep P base G g args s v s'

theorem next_make : Extern.allNextRows.lookup "internal/bytealg.MakeNoZero" = none := by kernel_rfl
theorem next_same : Extern.allNextRows.lookup "internal/abi.NoEscape" = none := by kernel_rfl
theorem next_none : Extern.allNextRows.lookup "" = none := by kernel_rfl

section
variable {P : Program} {base : Nat} {σ : Emb} {s t : St} {w : World} {a : Fr} {o : Oper} {v : Value}
theorem isNamed_of {fn : Func} {n : String} (h : isNamed fn n = true) : fn.name = n ∧ fn.origin = "" := by
  obtain ⟨h1, h2⟩ := cond_of h
  exact ⟨by simpa using h1, by simpa using h2⟩
theorem find_make {fn : Func} (h : isNamed fn "internal/bytealg.MakeNoZero" = true) : Extern.findNext fn = none ∧ Extern.find fn = some (Extern.BytealgMakeNoZero.makeNoZero fn.params fn.resultTypes) := by
  obtain ⟨h1, h2⟩ := isNamed_of h
  constructor
  · simp only [Extern.findNext, h1, h2, next_make, next_none]; rfl
  · simp only [Extern.find, h1, h2]
    have e1 : Extern.allGenericRows.lookup "internal/bytealg.MakeNoZero" = none := by kernel_rfl
    have e2 : Extern.allTypedRows.lookup "internal/bytealg.MakeNoZero" = some Extern.BytealgMakeNoZero.makeNoZero := by kernel_rfl
    rw [e1, e2]
    rfl
theorem find_same {fn : Func} (h : isNamed fn "internal/abi.NoEscape" = true) : Extern.findNext fn = none ∧ Extern.find fn = some Extern.AbiNoEscape.same := by
  obtain ⟨h1, h2⟩ := isNamed_of h
  constructor
  · simp only [Extern.findNext, h1, h2, next_same, next_none]; rfl
  · simp only [Extern.find, h1, h2]
    have e1 : Extern.allGenericRows.lookup "internal/abi.NoEscape" = none := by kernel_rfl
    have e2 : Extern.allTypedRows.lookup "internal/abi.NoEscape" = none := by kernel_rfl
    have e3 : Extern.allRows.lookup "internal/abi.NoEscape" = some Extern.AbiNoEscape.same := by kernel_rfl
    rw [e1, e2, e3]
    rfl
theorem isGor_of {g : FuncId} (h : isGor P g = false) : ∃ fn, P.funcs[g]? = some fn ∧ (fn.name == "runtime.NumGoroutine") = false := by
  unfold isGor fnOf at h
  cases hf : P.funcs[g]? with
  | none => rw [hf] at h; cases h
  | some fn => rw [hf] at h; exact ⟨fn, rfl, h⟩
/-- The call of a function value. -/
theorem call_run {c : Call} {f : Operand} {ρ : Operand → Value} {g : FuncId} {first cap : Array Value} (ho : o.op = .call c) (hc : c.callee = .value f) (hf : ρ f = .func (.func g) first cap) :
    execOp ρ o = callFunc g ((first ++ c.args.map ρ) ++ cap) := by
  simp only [execOp, ho, resolve, hc, hf, Deferred.ofValue]
  rfl
theorem enter_run {g : FuncId} {fn : Func} {args : Array Value} (hf : P.funcs[g]? = some fn) (hn : (fn.name == "runtime.NumGoroutine") = false) (hb : fn.body.isSome = true) : (callFunc g args).run P w = .ok (.enter g args) w := by
  have hb' : fn.body.isNone = false := by cases h : fn.body <;> simp_all
  unfold callFunc
  simp only [Sem.run_bind, run_program, Result.andThen_ok, hf]
  simp [hn, hb']
theorem outer_run {g : FuncId} {fn : Func} {args : Array Value} {e : Array Value → Sem Value} (hf : P.funcs[g]? = some fn) (hn : (fn.name == "runtime.NumGoroutine") = false) (hb : fn.body = none) (h1 : Extern.findNext fn = none) (h2 : Extern.find fn = some e) {v : Value} {w' : World}
    (hr : (e args).run P w = .ok v w') : (callFunc g args).run P w = .ok (.value v) w' := by
  unfold callFunc
  simp only [Sem.run_bind, run_program, Result.andThen_ok, hf]
  simp [hn, hb, h1, h2, hr]
/-- The arguments of a call of a function value. -/
theorem call_args {c : Call} {f : Operand} {ρ : Operand → Value} {g : FuncId} {first cap : List Value} (ho : o.op = .call c) (hc : c.callee = .value f) (hf : ex a f = .func (.func g) ⟨first⟩ ⟨cap⟩) (hr : OpsRel σ a ρ o.op) :
    ∃ first' cap' : Array Value, ρ f = .func (.func g) first' cap' ∧ F2 (VR σ) (appL first (appL (exs a c.args.toList) cap)) ((first' ++ c.args.map ρ) ++ cap').toList := by
  have h1 := hr f (by simp [ho, Op.operands, Call.operands, hc])
  rw [hf] at h1
  simp only [VR, AR] at h1
  obtain ⟨f', c', e1, e2, e3⟩ := h1
  refine ⟨f', c', e1, ?_⟩
  have hargs : F2 (VR σ) (exs a c.args.toList) (c.args.map ρ).toList := by
    unfold exs
    rw [mapL_eq, Array.toList_map]
    exact F2.same fun x hx => hr x (by simp only [ho, Op.operands, Call.operands, hc, Array.mem_append]; exact .inr (by simpa using hx))
  rw [appL_eq, appL_eq, ← List.append_assoc]
  simp only [Array.toList_append]
  exact ((LR_F2.1 e2).append hargs).append (LR_F2.1 e3)
theorem call_of {G : List Nat} {ih : IH} (hih : CallsOk P base G ih) {k : K} {c : Call} (ho : o.op = .call c) {f : Operand} (hc : c.callee = .value f)
    (h : (funcK (ex a f) fun g first cap => bif isGor P g then false else optK (fnOf P g) fun fn => Option.rec (motive := fun _ => Bool)
      (outer P fn o first (exs a c.args.toList) cap a s k)
      (fun _ => ih (.call g (appL first (appL (exs a c.args.toList) cap))) a s fun e _ s => valK e fun v => k v a s) fn.body) = true) (hs : s.Ok) :
    ∃ v s', StepL P base G o a s v a s' ∧ k v a s' = true := by
  obtain ⟨g, first, cap, hf, h1⟩ := funcK_of h
  obtain ⟨g1, h2⟩ := cond_of' h1
  obtain ⟨fn, hfn, h3⟩ := optK_of h2
  obtain ⟨fn', hfn', hname⟩ := isGor_of g1
  have : fn' = fn := by
    have : P.funcs[g]? = some fn := hfn
    rw [hfn'] at this; cases this; rfl
  subst this
  cases hb : fn'.body with
  | some body =>
    rw [hb] at h3
    obtain ⟨v, a', s', h4, h5, h5'⟩ := hih _ _ _ _ _ hs h3
    have h6 : k v a s' = true := h4
    refine ⟨v, s', ⟨rfl, rfl, h5, fun σ A w K Q hs hg hr hor hd hk => ?_⟩, h6⟩
    obtain ⟨first', cap', e1, e2⟩ := call_args ho hc hf hor
    unfold Oper.wp
    rw [call_run ho hc e1, enter_run hfn' hname (by rw [hb]; rfl)]
    show Calls P g _ w _
    refine (h5' σ w _ hs hg hr e2).mono fun e w' he => ?_
    obtain ⟨v', τ, rfl, r1, r2, r3, r4⟩ := he
    exact hk τ v' w' A.defers r2 r3 r4 r1 (hd.mono fun _ _ => DR.mono r2.le)
  | none =>
    rw [hb] at h3
    have h3 : outer P fn' o first (exs a c.args.toList) cap a s k = true := h3
    unfold outer at h3
    cases hm : isNamed fn' "internal/bytealg.MakeNoZero"
    · rw [hm, cond_false] at h3
      cases hm2 : isNamed fn' "internal/abi.NoEscape"
      · rw [hm2, cond_false] at h3
        obtain ⟨v, s', h4, h5⟩ := plain_of (base := base) (by rw [ho]; intro _ _ e; cases e) h3
        exact ⟨v, s', (h4.toW hs).l, h5⟩
      · rw [hm2, cond_true] at h3
        obtain ⟨n1, n2⟩ := find_same hm2
        unfold evSame at h3
        generalize hall : appL first (appL (exs a c.args.toList) cap) = all at h3
        cases all with
        | nil => exact no h3
        | cons v rest =>
          obtain ⟨g2, h4⟩ := cond_of (show (bif nilL rest then k v a s else false) = true from h3)
          have := nilL_of g2; subst this
          refine ⟨v, s, StepW.l ⟨St.Up.refl _, fun σ ρ w hr hor => ?_⟩, h4⟩
          obtain ⟨first', cap', e1, e2⟩ := call_args ho hc hf hor
          rw [hall] at e2
          obtain ⟨v', t', e3, e4, e5⟩ := e2
          have e5 : t' = [] := e5
          subst e5
          refine ⟨σ, v', w, .inl ?_, Ext.refl σ s, hr, Below.refl _ _, e4⟩
          rw [call_run ho hc e1]
          refine outer_run hfn' hname hb n1 n2 ?_
          have : (first' ++ c.args.map ρ) ++ cap' = #[v'] := Array.ext' e3
          rw [this]
          rfl
    · rw [hm, cond_true] at h3
      obtain ⟨n1, n2⟩ := find_make hm
      unfold evMakeNoZero at h3
      obtain ⟨v0, hv0, h4⟩ := nthK_of h3
      obtain ⟨g2, h5⟩ := cond_of h4
      obtain ⟨u, m, rfl, h6⟩ := intK_of h5
      obtain ⟨g3, h7⟩ := cond_of h6
      have := eqKind_of g3; subst this
      obtain ⟨n, rfl, h8⟩ := natK_of h7
      obtain ⟨g4, h9⟩ := cond_of h8
      obtain ⟨ty, hty, h10⟩ := nthK_of h9
      obtain ⟨g6, h10⟩ := cond_of h10
      obtain ⟨d, hd, h11⟩ := underK_of h10
      obtain ⟨e, rfl, h12⟩ := sliceTK_of h11
      obtain ⟨i, hi, h13⟩ := sizeK_of h12
      obtain ⟨g5, h14⟩ := cond_of h13
      obtain ⟨s', hnew, h15⟩ := newK_of h14
      have hsz : P.cellsOf e = 1 := by rw [cellsOf_eq hi]; exact beqN_true g5
      have hn : n ≤ 1048576 := Nat.le_of_ble_eq_true g4
      have hall : appL first (appL (exs a c.args.toList) cap) = [.int .i64 (n : Int)] := by
        generalize appL first (appL (exs a c.args.toList) cap) = all at hv0 g2
        have g2 := nilL_of g2
        rw [dropL_eq] at g2
        cases all with
        | nil => simp at hv0
        | cons x rest =>
          simp at hv0 g2
          rw [hv0, g2]
      refine ⟨_, s', StepW.l (StepQ.toW (P := P) (base := base) hs (.inl (.inr ⟨_, hnew, fun σ t ρ w hr hor hlt hσ hX => ?_⟩))), h15⟩
      obtain ⟨first', cap', e1, e2⟩ := call_args ho hc hf hor
      rw [hall] at e2
      obtain ⟨v', t', e3, e4, e5⟩ := e2
      have e5 : t' = [] := e5
      subst e5
      simp only [VR] at e4
      subst e4
      have hargs : (first' ++ c.args.map ρ) ++ cap' = #[.int .i64 (n : Int)] := Array.ext' e3
      have hres : fn'.resultTypes = #[ty] := by
        have g6 := nilL_of g6
        rw [dropL_eq] at g6
        apply Array.ext'
        generalize fn'.resultTypes.toList = l at hty g6
        cases l with
        | nil => simp at hty
        | cons x rest =>
          simp at hty g6
          rw [hty, g6]
      obtain ⟨cs, q1, q2, _, _⟩ := run_makeNoZero_cap (P := P) w fn'.params ty e hd n (by omega)
      have hF : ∀ (m : Nat) (l' : List Value), l'.length = m → F2 (CR (σ.put s.next (w.heap.size, cs.size - n))) (List.replicate m hole) l' := by
        intro m
        induction m with
        | zero => intro l' h; exact List.length_eq_zero_iff.1 h
        | succ m ih =>
          intro l' h
          cases l' with
          | nil => cases h
          | cons x l' => exact ⟨x, l', rfl, fun hc => absurd hc (by decide), ih l' (by simpa using h)⟩
      have hrl : repL n [hole] = List.replicate n hole := by
        rw [repL_eq]
        clear hX hnew h14 h15
        induction n with
        | zero => rfl
        | succ n ih => rw [List.replicate_succ, List.flatten_cons, List.replicate_succ]; simp
      have hrep : F2 (CR (σ.put s.next (w.heap.size, cs.size - n))) (repL n [hole]) (cs.toList.take (repL n [hole]).length) := by
        rw [hrl, List.length_replicate]
        exact hF n _ (by rw [List.length_take, Array.length_toList]; omega)
      have hrd : HR P base σ t w.drew.drew := hr.world hr.size (fun _ _ => rfl)
      have hlay := hrd.lay (b := s.next) (r := w.heap.size) (x := cs.size - n) (w' := w.drew.drew.alloc (.cells cs e)) hσ hlt (by
          rw [hX]
          refine BR.mk ⟨cs, (0, 0), alloc_self w.drew.drew _, hrep, ?_, .inl rfl, fun _ => ⟨hr.size, .inl rfl⟩⟩
          rw [hrl, List.length_replicate, hsz]
          omega) (by rw [alloc_size]; have := hr.size; exact Nat.le_succ_of_le this) (fun kk hkk => Below.heap_alloc w.drew.drew _ kk hkk) (fun d x' e' => by
          by_cases hd : t.blk d = .dead
          · exact hd
          · exact absurd (BR.lt (hr.blk d _ _ e') hd) (by omega))
      refine ⟨.slice (some ⟨w.heap.size, 0, none⟩) n cs.size, _, (w.heap.size, cs.size - n), .inl ?_, ?_, hlay, (((Below.refl base w).drew).drew).alloc hr.size _⟩
      · rw [call_run ho hc e1, hargs]
        refine outer_run hfn' hname hb n1 n2 ?_
        rw [hres]
        exact q1
      · have := slice_VR (τ := σ.put s.next (w.heap.size, cs.size - n)) (b := s.next) Emb.put_self 0 n n
        have e9 : n + (cs.size - n) = cs.size := by omega
        rw [e9] at this
        exact this
end
end Go.Ev
