import Derived.Test.YtkbffpadkdgbmaaGreatDoorEvC10
/- Loud operations: copy, clear, unsafe.String; the builtins. -/
namespace Go.Ev
open Go Go.RowKit Go.Lib
set_option linter.unusedVariables false
set_option linter.unusedSimpArgs false
set_option linter.deprecated false

section
variable {P : Program} {base : Nat} {σ : Emb} {s t : St} {w : World} {a : Fr} {o : Oper} {v : Value}

theorem tupV {τ : Emb} : VR τ (.tuple #[]) undef := by simp only [undef, VR, AR, LR]; exact ⟨_, rfl, rfl⟩
theorem brun {c : Call} {b : Builtin} {ρ : Operand → Value} {v : Value} {w w' : World} (ho : o.op = .call c) (hc : c.callee = .builtin b)
    (h : (builtin b c.argTypes o.type (c.args.map fun | .const _ => true | _ => false) (c.args.map ρ)).run P w = .ok (.value v) w') : Gives ((execOp ρ o).run P w) v w' := .inl (builtin_run ho hc h)
theorem zeroCells_eq (z : Array Value) (n : Nat) : (Builtin.zeroCells z n).toList = (List.replicate n z.toList).flatten := cells_repl z n
theorem clear_of {k : K} {c : Call} {ty : TypeId} (ho : o.op = .call c) (hc : c.callee = .builtin .clear) (hty : c.argTypes[0]? = some ty) (h : evClear P ty (exs a c.args.toList) a s k = true) :
    ∃ v s', StepW P base o a s v s' ∧ k v a s' = true := by
  obtain ⟨v0, hv0, h1⟩ := nthK_of h
  obtain ⟨p, n, cap, rfl, h2⟩ := sliceK_of h1
  obtain ⟨d, hd, h3⟩ := underK_of h2
  cases p with
  | none =>
    refine ⟨_, s, ⟨St.Up.refl _, fun σ ρ w hr hor => ?_⟩, h3⟩
    obtain ⟨v', e1, e2⟩ := arg_get ho hc hor hv0
    simp only [VR] at e2; subst e2
    refine ⟨σ, .tuple #[], w, brun ho hc ?_, Ext.refl σ s, hr, Below.refl _ _, tupV⟩
    simp only [builtin, Sem.run_bind]
    have : (Builtin.clear_ c.argTypes o.type (c.args.map ρ)).run P w = .ok (.tuple #[]) w := by
      unfold Builtin.clear_
      rw [hty, e1]
      simp only [Sem.run_bind, run_underlying hd, Result.andThen_ok]
      rfl
    rw [this]
    rfl
  | some p =>
    obtain ⟨e, rfl, h4⟩ := sliceTK_of (show sliceTK d _ = true from h3)
    obtain ⟨i, z, hi, hz, hf, h5⟩ := zeroK_of h4
    obtain ⟨b, f, cc, e', q, s', rfl, hb, hq, hok, hl, hput, h6⟩ := writeK_of h5
    refine ⟨_, s', ⟨hput.up (ne_dead hb), fun σ ρ w hr hor => ?_⟩, h6⟩
    obtain ⟨v', e1, e2⟩ := arg_get ho hc hor hv0
    simp only [VR] at e2
    obtain ⟨r, x, hσ, _, rfl⟩ := e2
    have hrel : F2 (VR σ) (repL n (cellsL z)) (Builtin.zeroCells z.cells n).toList := by rw [zeroCells_eq, repL_eq, cellsL_eq]; exact rep_F2 hf n
    obtain ⟨w', w1, w2, w3⟩ := hr.write hσ hb hq hok hl hrel hput
    refine ⟨σ, .tuple #[], w', brun ho hc ?_, Ext.put hput (ne_dead hb) hσ, w2, w3, tupV⟩
    simp only [builtin, Sem.run_bind]
    have : (Builtin.clear_ c.argTypes o.type (c.args.map ρ)).run P w = .ok (.tuple #[]) w' := by
      unfold Builtin.clear_
      rw [hty, e1]
      simp only [Sem.run_bind, run_underlying hd, Result.andThen_ok]
      cases n with
      | zero =>
        have : (Builtin.zeroCells z.cells 0).toList = [] := by rw [zeroCells_eq]; rfl
        rw [this] at w1
        cases w1
        rfl
      | succ n => simp only [Sem.run_bind, run_zeroValue hi hz, Result.andThen_ok, w1, Sem.run_pure]
    rw [this]
    rfl
theorem minN_eq (m n : Nat) : minN m n = Nat.min m n := by
  unfold minN
  cases h : Nat.ble m n
  · rw [cond_false]
    have : ¬ m ≤ n := fun hh => by rw [Nat.ble_eq_true_of_le hh] at h; cases h
    exact (Nat.min_eq_right (by omega)).symm
  · rw [cond_true]
    exact (Nat.min_eq_left (Nat.le_of_ble_eq_true h)).symm
theorem copy_of {k : K} {c : Call} {ty : TypeId} (ho : o.op = .call c) (hc : c.callee = .builtin .copy) (hty : c.argTypes[0]? = some ty) (h : evCopy P ty (exs a c.args.toList) a s k = true) :
    ∃ v s', StepW P base o a s v s' ∧ k v a s' = true := by
  obtain ⟨v0, hv0, h1⟩ := nthK_of h
  obtain ⟨v1, hv1, h2⟩ := nthK_of h1
  obtain ⟨p, n, cap, rfl, h3⟩ := sliceK_of h2
  obtain ⟨q, m, cap', rfl, h4⟩ := sliceK_of h3
  obtain ⟨d, hd, h5⟩ := underK_of h4
  obtain ⟨e, rfl, h6⟩ := sliceTK_of h5
  obtain ⟨i, hi, h7⟩ := sizeK_of h6
  have run : ∀ {ρ : Operand → Value} {w w' p' q' n' m' d' nv}, (c.args.map ρ)[0]? = some (.slice p' n' d') → (c.args.map ρ)[1]? = some q' → (Builtin.lenOf q').run P w = .ok m' w → (Builtin.firstCells i.size (minN m' n') q').run P w = .ok nv w →
      (∀ b, p' = some b → (storeCells b nv.toList).run P w = .ok () w') → (p' = none → w' = w) → Gives ((execOp ρ o).run P w) (.int .i64 (.ofNat (minN m' n'))) w' := by
    intro ρ w w' p' q' n' m' d' nv e1 e2 e3 e4 e5 e6
    refine brun ho hc ?_
    simp only [builtin, Sem.run_bind]
    have : (Builtin.copy_ c.argTypes o.type (c.args.map ρ)).run P w = .ok (.int .i64 (.ofNat (minN m' n'))) w' := by
      unfold Builtin.copy_
      rw [minN_eq] at e4 ⊢
      rw [hty, e1, e2]
      simp only [Sem.run_bind, run_underlying hd, Result.andThen_ok, e3, run_sizeOf hi, e4]
      cases p' with
      | none => rw [e6 rfl]; rfl
      | some b => simp only [Sem.run_bind, e5 b rfl, Result.andThen_ok, Sem.run_pure]; rfl
    rw [this]
    rfl
  cases q with
  | none =>
    refine ⟨_, s, ⟨St.Up.refl _, fun σ ρ w hr hor => ?_⟩, h7⟩
    obtain ⟨w0, a0, r0⟩ := arg_get ho hc hor hv0
    obtain ⟨w1, a1, r1⟩ := arg_get ho hc hor hv1
    obtain ⟨p', d', rfl, _⟩ := sliceV r0
    simp only [VR] at r1; subst r1
    exact ⟨σ, _, w, run (w' := w) a0 a1 rfl rfl (fun _ _ => rfl) (fun _ => rfl), Ext.refl σ s, hr, Below.refl _ _, by simp only [VR]⟩
  | some q =>
    obtain ⟨p, rfl, h8⟩ := optK_of h7
    obtain ⟨b, f, cc, e', qq, rfl, hb, hn, hok, h9⟩ := readK_of h8
    obtain ⟨b2, f2, c2, e2, q2, s', rfl, hb2, hq2, hok2, hl2, hput, h10⟩ := writeK_of h9
    refine ⟨_, s', ⟨hput.up (ne_dead hb2), fun σ ρ w hr hor => ?_⟩, h10⟩
    obtain ⟨w0, a0, r0⟩ := arg_get ho hc hor hv0
    obtain ⟨w1, a1, r1⟩ := arg_get ho hc hor hv1
    simp only [VR] at r0 r1
    obtain ⟨r, x, hσ, _, rfl⟩ := r0
    obtain ⟨r', x', hσ', _, rfl⟩ := r1
    obtain ⟨l', l1, l2, l3⟩ := hr.vals hσ' hb hn hok
    obtain ⟨w', w1, w2, w3⟩ := hr.write hσ hb2 hq2 hok2 hl2 l1 hput
    have hf := run_firstCells_some (P := P) w i.size (minN m n) ⟨r', f, none⟩ m (cap' + x') l' l2 (fun j v hj => by rw [addr_add]; exact l3 j v hj)
    exact ⟨σ, _, w', run a0 a1 rfl hf (fun bb e => by cases e; exact w1) (fun e => by cases e), Ext.put hput (ne_dead hb2) hσ, w2, w3, by simp only [VR]⟩

theorem run_loadNs : ∀ (ns : List Nat) (r f : Nat) (acc : ByteArray), (∀ (j x : Nat), ns[j]? = some x → w.cell? ⟨r, f + j, none⟩ = some (.int .u8 (x : Int))) →
    (loadBytes ⟨r, f, none⟩ acc ns.length).run P w = .ok ⟨acc.data ++ (ns.map UInt8.ofNat).toArray⟩ w
  | [], r, f, acc, _ => by simp [loadBytes]
  | n :: ns, r, f, acc, h => by
    have h0 := h 0 n rfl
    have ih := run_loadNs ns r (f + 1) (acc.push (UInt8.ofNat n)) (fun j x hj => by
      have := h (j + 1) x (by simpa using hj)
      rw [show f + 1 + j = f + (j + 1) by omega]
      exact this)
    simp only [Nat.add_zero] at h0
    simp only [List.length_cons, loadBytes, Sem.run_bind, run_load1 h0, Result.andThen_ok, addr_add]
    rw [show (Int.toNat (n : Int)).toUInt8 = UInt8.ofNat n from rfl, ih]
    congr 1
    apply ByteArray.ext
    apply Array.ext'
    simp [ByteArray.push]
theorem two_args {c : Call} {b : Builtin} {ρ : Operand → Value} (ho : o.op = .call c) (hc : c.callee = .builtin b) (hor : OpsRel σ a ρ o.op) {v0 v1 : Value}
    (h0 : (exs a c.args.toList)[0]? = some v0) (h1 : (exs a c.args.toList)[1]? = some v1) (hn : (exs a c.args.toList).drop 2 = []) : ∃ w0 w1, c.args.map ρ = #[w0, w1] ∧ VR σ v0 w0 ∧ VR σ v1 w1 := by
  have hF := args_F2 ho hc hor
  obtain ⟨w0, e0, r0⟩ := arg_get ho hc hor h0
  obtain ⟨w1, e1, r1⟩ := arg_get ho hc hor h1
  refine ⟨w0, w1, ?_, r0, r1⟩
  have hl := hF.length
  have e3 := congrArg List.length hn
  simp only [List.length_drop, List.length_nil] at e3
  have e4 := (List.getElem?_eq_some_iff.1 h1).1
  apply Array.ext'
  have hlen : (c.args.map ρ).toList.length = 2 := by omega
  rw [← Array.getElem?_toList] at e0 e1
  have hxy : ∃ x y, (c.args.map ρ).toList = [x, y] := by
    generalize (c.args.map ρ).toList = l at hlen
    match l, hlen with
    | [x, y], _ => exact ⟨x, y, rfl⟩
  obtain ⟨x, y, hxy⟩ := hxy
  rw [hxy] at e0 e1 ⊢
  simp at e0 e1
  simp [e0, e1]
theorem unsafeString_of {k : K} {c : Call} {ty : TypeId} (ho : o.op = .call c) (hc : c.callee = .builtin .unsafeString) (hty : c.argTypes[0]? = some ty) (h : evUnsafeString P ty (exs a c.args.toList) a s k = true) :
    ∃ v s', StepW P base o a s v s' ∧ k v a s' = true := by
  obtain ⟨v0, hv0, h1⟩ := nthK_of h
  obtain ⟨v1, hv1, h2⟩ := nthK_of h1
  obtain ⟨g1, h3⟩ := cond_of h2
  obtain ⟨p, rfl, h4⟩ := ptrK_of h3
  obtain ⟨p, rfl, h5⟩ := optK_of h4
  obtain ⟨tt, n, rfl, h6⟩ := intNatK_of h5
  have hdrop : (exs a c.args.toList).drop 2 = [] := by have := nilL_of g1; rwa [dropL_eq] at this
  have hdef := fun (ad : Addr) => (show Builtin.unsafeString_ c.argTypes o.type #[.pointer (some ad), .int tt (n : Int)] = (asInt (.int tt (n : Int)) >>= _) from rfl)
  have hmax : IntKind.i64.max = 9223372036854775807 := rfl
  have hneg : ¬ ((n : Int) < 0) := by omega
  cases hn0 : Nat.beq n 0
  · rw [hn0] at h6
    obtain ⟨g2, h7⟩ := cond_of (show (bif Nat.ble n 1048576 then _ else false) = true from h6)
    obtain ⟨d, hd, h8⟩ := underK_of h7
    obtain ⟨u, rfl, h9⟩ := ptrTK_of h8
    obtain ⟨i, hi, h10⟩ := sizeK_of h9
    obtain ⟨g3, h11⟩ := cond_of h10
    obtain ⟨b, f, cc, e, q, rfl, hb, hq, h12⟩ := hereK_of h11
    obtain ⟨g4, h13⟩ := cond_of h12
    have := beqN_true g4; subst this
    obtain ⟨g5, h14⟩ := cond_of h13
    obtain ⟨b', f', c', e', q', hpe, hb', hn', hok, h15⟩ := readK_of h14
    cases hpe
    rw [hb] at hb'; cases hb'
    obtain ⟨ns, hns, h16⟩ := bytesK_of h15
    obtain ⟨b', f', hpe, h17⟩ := addrK_of h16
    cases hpe
    obtain ⟨s', hput, h18⟩ := putK_of h17
    have hn : n ≠ 0 := fun e => by rw [e] at hn0; exact absurd hn0 (by decide)
    have hsm : n ≤ 1048576 := Nat.le_of_ble_eq_true g2
    refine ⟨_, s', ⟨hput.up (ne_dead hb), fun σ ρ w hr hor => ?_⟩, h18⟩
    obtain ⟨w0, w1, hargs, r0, r1⟩ := two_args ho hc hor hv0 hv1 hdrop
    simp only [VR] at r0 r1
    obtain ⟨r, x, hσ, _, rfl⟩ := r0
    subst r1
    obtain ⟨l', l1, l2, l3⟩ := hr.vals hσ hb hn' hok
    rw [hns] at l1
    have hl' := ints_F2 l1
    subst hl'
    have hlen : ns.length = n := by simpa using l2
    have hsz : P.cellsOf e = 1 := by rw [cellsOf_eq hi]; exact beqN_true g3
    have hsh := hr.shape hσ hb hq
    have hle : f + n ≤ cc.length := by have := Nat.le_of_ble_eq_true g5; rwa [lenL_eq] at this
    have hv : (variablesAt ⟨r, f, none⟩ e n).run P w = .ok true w := by
      have hl := liesAt_whole (P := P) (e := e) (z := 1) (off := f) (n := n) (count := (cc.length + x * P.cellsOf e) / P.cellsOf e) hsz (by decide) (Nat.mod_one f) (by rw [hsz, Nat.div_one, Nat.div_one]; omega)
      simp [variablesAt, hsh, hl]
    have hld : (loadBytes ⟨r, f, none⟩ .empty n).run P w = .ok ⟨⟨ns.map UInt8.ofNat⟩⟩ w := by
      have := run_loadNs (P := P) (w := w) ns r f .empty (fun j y hj => l3 j _ (by rw [List.getElem?_map, List.getElem?_map, hj]; rfl))
      rw [hlen] at this
      rw [this]
      congr 2
      show ByteArray.empty.data ++ (ns.map UInt8.ofNat).toArray = _
      simp
    have hB := hr.blk b r x hσ
    rw [hb] at hB
    obtain ⟨rc, fz, m1, _, _, _, m5⟩ := hB.own hq
    have m6 := (m5 hq).1
    have hne : ∀ kk, kk ≠ r → (w.freeze ⟨r, f, none⟩ n).heap[kk]? = w.heap[kk]? := fun kk hkk => by
      simp only [World.freeze, if_neg hn, Array.getElem?_modify]
      rw [if_neg (Ne.symm hkk)]
    have hfs : (w.freeze ⟨r, f, none⟩ n).heap.size = w.heap.size := by simp [World.freeze, hn]
    refine ⟨σ, .string ⟨⟨ns.map UInt8.ofNat⟩⟩, w.freeze ⟨r, f, none⟩ n, brun ho hc ?_, Ext.put hput (ne_dead hb) hσ, hr.put hσ (ne_dead hb) hput trivial (by rw [hfs]; exact hr.size) hne,
      ⟨by simp [World.freeze, hn], by simp [World.freeze, hn], by simp [World.freeze, hn], Nat.le_of_eq hfs.symm, fun kk hkk => hne kk (by omega)⟩, by simp only [VR]⟩
    rw [hargs]
    simp only [builtin, Sem.run_bind, hdef, hty]
    have h63 : ¬ ((n : Int) > IntKind.i64.max) := by rw [hmax]; omega
    have hn' : ¬ ((n : Int) = 0) := by omega
    simp only [asInt, asIntOf, Sem.run_bind, Sem.run_pure, Result.andThen_ok, hneg, if_false, h63, hn', elemOf, run_underlying hd, Int.toNat_natCast, hv, if_true, hld, run_freeze]
  · rw [hn0] at h6
    have hn : n = 0 := beqN_true hn0
    subst hn
    refine ⟨_, s, ⟨St.Up.refl _, fun σ ρ w hr hor => ?_⟩, h6⟩
    obtain ⟨w0, w1, hargs, r0, r1⟩ := two_args ho hc hor hv0 hv1 hdrop
    simp only [VR] at r0 r1
    obtain ⟨r, x, hσ, _, rfl⟩ := r0
    subst r1
    refine ⟨σ, .string .empty, w, brun ho hc ?_, Ext.refl σ s, hr, Below.refl _ _, by simp only [VR]; rfl⟩
    rw [hargs]
    simp only [builtin, Sem.run_bind, hdef, hty]
    simp only [asInt, asIntOf, Sem.run_bind, Sem.run_pure, Result.andThen_ok, hneg, if_false, hmax]
    rfl
end
end Go.Ev
