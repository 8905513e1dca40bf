import Derived.Test.YtkbffpadkdgbmaaGreatDoorEvC4
/- Operations: numbers; slices that are made and cut. -/
namespace Go.Ev
open Go Go.RowKit
set_option linter.unusedVariables false
set_option linter.unusedSimpArgs false
set_option linter.deprecated false

theorem wrap_in {k : IntKind} {n : Int} (h : inRange k n = true) : k.wrap n = n := by
  cases k with
  | i8 =>
    have hb : (-128 : Int) ≤ n ∧ n < 128 := by
      cases n with
      | ofNat m =>
        have hm : m < 128 := Nat.le_of_ble_eq_true h
        simp only [Int.ofNat_eq_natCast]; omega
      | negSucc m => 
        have hm : m < 128 := Nat.le_of_ble_eq_true h
        omega
    have e : IntKind.wrap .i8 n = if 128 ≤ n % 256 then n % 256 - 256 else n % 256 := by
      simp [IntKind.wrap, IntKind.bits, IntKind.signed]
    rw [e]
    split <;> omega
  | i16 =>
    have hb : (-32768 : Int) ≤ n ∧ n < 32768 := by
      cases n with
      | ofNat m =>
        have hm : m < 32768 := Nat.le_of_ble_eq_true h
        simp only [Int.ofNat_eq_natCast]; omega
      | negSucc m => 
        have hm : m < 32768 := Nat.le_of_ble_eq_true h
        omega
    have e : IntKind.wrap .i16 n = if 32768 ≤ n % 65536 then n % 65536 - 65536 else n % 65536 := by
      simp [IntKind.wrap, IntKind.bits, IntKind.signed]
    rw [e]
    split <;> omega
  | i32 =>
    have hb : (-2147483648 : Int) ≤ n ∧ n < 2147483648 := by
      cases n with
      | ofNat m =>
        have hm : m < 2147483648 := Nat.le_of_ble_eq_true h
        simp only [Int.ofNat_eq_natCast]; omega
      | negSucc m => 
        have hm : m < 2147483648 := Nat.le_of_ble_eq_true h
        omega
    have e : IntKind.wrap .i32 n = if 2147483648 ≤ n % 4294967296 then n % 4294967296 - 4294967296 else n % 4294967296 := by
      simp [IntKind.wrap, IntKind.bits, IntKind.signed]
    rw [e]
    split <;> omega
  | i64 =>
    have hb : (-9223372036854775808 : Int) ≤ n ∧ n < 9223372036854775808 := by
      cases n with
      | ofNat m =>
        have hm : m < 9223372036854775808 := Nat.le_of_ble_eq_true h
        simp only [Int.ofNat_eq_natCast]; omega
      | negSucc m => 
        have hm : m < 9223372036854775808 := Nat.le_of_ble_eq_true h
        omega
    have e : IntKind.wrap .i64 n = if 9223372036854775808 ≤ n % 18446744073709551616 then n % 18446744073709551616 - 18446744073709551616 else n % 18446744073709551616 := by
      simp [IntKind.wrap, IntKind.bits, IntKind.signed]
    rw [e]
    split <;> omega
  | u8 =>
    have hb : (0 : Int) ≤ n ∧ n < 256 := by
      cases n with
      | ofNat m =>
        have hm : m < 256 := Nat.le_of_ble_eq_true h
        simp only [Int.ofNat_eq_natCast]; omega
      | negSucc m => exact no h
    simp only [IntKind.wrap, IntKind.bits, IntKind.signed, Bool.true_and, Bool.false_and, decide_eq_true_eq, Nat.reduceSub, Int.reducePow]
    simp; omega
  | u16 =>
    have hb : (0 : Int) ≤ n ∧ n < 65536 := by
      cases n with
      | ofNat m =>
        have hm : m < 65536 := Nat.le_of_ble_eq_true h
        simp only [Int.ofNat_eq_natCast]; omega
      | negSucc m => exact no h
    simp only [IntKind.wrap, IntKind.bits, IntKind.signed, Bool.true_and, Bool.false_and, decide_eq_true_eq, Nat.reduceSub, Int.reducePow]
    simp; omega
  | u32 =>
    have hb : (0 : Int) ≤ n ∧ n < 4294967296 := by
      cases n with
      | ofNat m =>
        have hm : m < 4294967296 := Nat.le_of_ble_eq_true h
        simp only [Int.ofNat_eq_natCast]; omega
      | negSucc m => exact no h
    simp only [IntKind.wrap, IntKind.bits, IntKind.signed, Bool.true_and, Bool.false_and, decide_eq_true_eq, Nat.reduceSub, Int.reducePow]
    simp; omega
  | u64 =>
    have hb : (0 : Int) ≤ n ∧ n < 18446744073709551616 := by
      cases n with
      | ofNat m =>
        have hm : m < 18446744073709551616 := Nat.le_of_ble_eq_true h
        simp only [Int.ofNat_eq_natCast]; omega
      | negSucc m => exact no h
    simp only [IntKind.wrap, IntKind.bits, IntKind.signed, Bool.true_and, Bool.false_and, decide_eq_true_eq, Nat.reduceSub, Int.reducePow]
    simp; omega
theorem wrapK_of {t : IntKind} {n : Int} {k : Value → Bool} (h : wrapK t n k = true) : k (.int t (t.wrap n)) = true := by
  unfold wrapK at h
  cases hr : inRange t n
  · rw [hr] at h; exact h
  · rw [hr, cond_true] at h; rw [wrap_in hr]; exact h
theorem ltI_eq (a b : Int) : ltI a b = decide (a < b) := by
  cases a with
  | ofNat a => cases b with
    | ofNat b =>
      show Nat.blt a b = _
      rw [Bool.eq_iff_iff]; simp [Nat.blt_eq]
    | negSucc b =>
      show false = _
      symm; simp only [decide_eq_false_iff_not, Int.ofNat_eq_natCast]; omega
  | negSucc a => cases b with
    | ofNat b =>
      show true = _
      symm; simp only [decide_eq_true_eq, Int.ofNat_eq_natCast]; omega
    | negSucc b =>
      show Nat.blt b a = _
      rw [Bool.eq_iff_iff]; simp only [Nat.blt_eq, decide_eq_true_eq]; omega
theorem eqI_eq (a b : Int) : eqI a b = decide (a = b) := by
  cases a with
  | ofNat a => cases b with
    | ofNat b =>
      show Nat.beq a b = _
      rw [beqN, Bool.eq_iff_iff]; simp only [decide_eq_true_eq, Int.ofNat_eq_natCast]; omega
    | negSucc b =>
      show false = _
      symm; simp only [decide_eq_false_iff_not, Int.ofNat_eq_natCast]; omega
  | negSucc a => cases b with
    | ofNat b =>
      show false = _
      symm; simp only [decide_eq_false_iff_not, Int.ofNat_eq_natCast]; omega
    | negSucc b =>
      show Nat.beq a b = _
      rw [beqN, Bool.eq_iff_iff]; simp
theorem notB_eq (b : Bool) : notB b = !b := by cases b <;> rfl
theorem intE_of {v : Value} {k : IntKind → Int → Bool} {z : Unit → Bool} (h : intE v k z = true) : (∃ t n, v = .int t n ∧ k t n = true) ∨ z () = true := by
  cases v <;> first | exact .inl ⟨_, _, rfl, h⟩ | exact .inr h

section
variable {P : Program} {base : Nat} {σ : Emb} {s t : St} {w : World} {a : Fr} {o : Oper} {v : Value}

theorem dec_eq (x y : Int) : (x == y) = decide (x = y) := by by_cases h : x = y <;> simp [h]
theorem intOp_of {op : BinOp} {ty : TypeId} {t : IntKind} {x y : Int} {z : Unit → Bool} {k : Value → Bool} (h : intOp op t x y z k = true) :
    z () = true ∨ ∃ v, k v = true ∧ flat v = true ∧ ∀ w, (binOp op ty (.int t x) (.int t y)).run P w = .ok v w := by
  cases op with
  | add => exact .inr ⟨_, wrapK_of h, rfl, fun w => by simp [binOp, Op.intArith]⟩
  | sub => exact .inr ⟨_, wrapK_of h, rfl, fun w => by simp [binOp, Op.intArith]; rfl⟩
  | mul => exact .inr ⟨_, wrapK_of h, rfl, fun w => by simp [binOp, Op.intArith]⟩
  | quo =>
    obtain ⟨h1, h2⟩ := cond_of' h
    rw [eqI_eq] at h1
    have h1' : y ≠ 0 := by simpa using h1
    exact .inr ⟨_, wrapK_of h2, rfl, fun w => by simp [binOp, Op.intDiv, h1']⟩
  | rem =>
    obtain ⟨h1, h2⟩ := cond_of' h
    rw [eqI_eq] at h1
    have h1' : y ≠ 0 := by simpa using h1
    exact .inr ⟨_, h2, rfl, fun w => by simp [binOp, Op.intDiv, h1']⟩
  | eql => exact .inr ⟨_, h, rfl, fun w => by simp [binOp, Op.intCmp, eqI_eq, dec_eq]⟩
  | neq => exact .inr ⟨_, h, rfl, fun w => by simp [binOp, Op.intCmp, eqI_eq, notB_eq, bne, dec_eq]⟩
  | lss => exact .inr ⟨_, h, rfl, fun w => by simp [binOp, Op.intCmp, ltI_eq]⟩
  | leq => exact .inr ⟨_, h, rfl, fun w => by simp [binOp, Op.intCmp, ltI_eq, notB_eq, ← Int.not_lt]⟩
  | gtr => exact .inr ⟨_, h, rfl, fun w => by simp [binOp, Op.intCmp, ltI_eq]⟩
  | geq => exact .inr ⟨_, h, rfl, fun w => by simp [binOp, Op.intCmp, ltI_eq, notB_eq, ← Int.not_lt]⟩
  | _ => exact .inl h
theorem eqGuard_ptr {op : BinOp} {ty : TypeId} {x y : Operand} {u v : Value} (h : (∀ c, u ≠ .agg c) ∧ u ≠ .nilIface) : (eqGuard op ty x y u v).run P w = .ok () w := by
  obtain ⟨h1, h2⟩ := h
  cases op <;> first
    | rfl
    | (cases u <;> first
        | exact absurd rfl h2
        | exact absurd rfl (h1 _)
        | rfl
        | (cases v <;> rfl))
theorem intB_of {k : K} {op : BinOp} {ty ty' : TypeId} {x y : Operand} (ho : o.op = .binOp op ty x y ty') {t : IntKind} {m n : Int} (hx : ex a x = .int t m) (hy : ex a y = .int t n)
    (h : intOp op t m n (fun _ => plainK P a s o k) (fun v => k v a s) = true) : ∃ v s', StepQ P base o a s v s' ∧ k v a s' = true := by
  rcases intOp_of (P := P) (ty := ty) h with h | ⟨v, h1, h2, h3⟩
  · exact plain_of (by rw [ho]; intro _ _ e; cases e) h
  · refine ⟨v, s, StepP.q fun σ t' ρ w _ hr => ⟨v, .inl ?_, flat_refl v h2⟩, h1⟩
    have hx' := hr x (by simp [ho, Op.operands])
    have hy' := hr y (by simp [ho, Op.operands])
    rw [hx] at hx'; rw [hy] at hy'
    simp only [VR] at hx' hy'
    have hg := eqGuard_ptr (P := P) (w := w) (op := op) (ty := ty) (x := x) (y := y) (u := .int t m) (v := .int t n) ⟨fun _ e => (by cases e), fun e => (by cases e)⟩
    simp [execOp, ho, hx', hy', hg, h3]
theorem eqOpK_of {op : BinOp} {k : Bool → Bool} (h : eqOpK op k = true) : (op = .eql ∧ k false = true) ∨ (op = .neq ∧ k true = true) := by
  cases op <;> first | exact no h | exact .inl ⟨rfl, h⟩ | exact .inr ⟨rfl, h⟩
theorem someB_eq {α : Type} (p : Option α) : someB p = p.isSome := by cases p <;> rfl
/-- Equality that is told of related values. -/
theorem eq_step {k : K} {op : BinOp} {ty ty' : TypeId} {x y : Operand} (ho : o.op = .binOp op ty x y ty') (no' b : Bool) (hop : (op = .eql ∧ no' = false) ∨ (op = .neq ∧ no' = true))
    (hv : ∀ σ ρ w, OpsRel σ a ρ o.op → (∀ c, ρ x ≠ .agg c) ∧ ρ x ≠ .nilIface ∧ ((∃ p, ρ x = .pointer p) ∨ ∃ p n c, ρ x = .slice p n c) ∧ ((∃ p, ρ y = .pointer p) ∨ ∃ p n c, ρ y = .slice p n c) ∧ (Op.equal ty (ρ x) (ρ y)).run P w = .ok b w)
    (h : k (.bool (xorB no' b)) a s = true) : ∃ v s', StepQ P base o a s v s' ∧ k v a s' = true := by
  refine ⟨_, s, StepP.q fun σ t' ρ w _ hr => ⟨.bool (xorB no' b), .inl ?_, by simp only [VR]⟩, h⟩
  obtain ⟨h1, h2, h3, h4, h5⟩ := hv σ ρ w hr
  have hg := eqGuard_ptr (P := P) (w := w) (op := op) (ty := ty) (x := x) (y := y) (u := ρ x) (v := ρ y) ⟨h1, h2⟩
  have hb : (binOp op ty (ρ x) (ρ y)).run P w = .ok (.bool (xorB no' b)) w := by
    rcases hop with ⟨rfl, rfl⟩ | ⟨rfl, rfl⟩ <;> rcases h3 with ⟨p, h3⟩ | ⟨p, n, c, h3⟩ <;> rcases h4 with ⟨q, h4⟩ | ⟨q, m, d, h4⟩ <;> rw [h3, h4] at h5 ⊢ <;> simp [binOp, h5, xorB, notB_eq]
  simp [execOp, ho, hg, hb]
theorem equal_ptr {ty e : TypeId} (hd : P.underlying ty = some (.pointer e)) (d : Nat) :
    (∀ q, (Op.equalIn (d + 1) ty (.pointer none) (.pointer q)).run P w = .ok q.isNone w) ∧ (∀ p, (Op.equalIn (d + 1) ty (.pointer (some p)) (.pointer none)).run P w = .ok false w) ∧
    (∀ i r f f', P.info? e = some i → i.size ≠ 0 → (Op.equalIn (d + 1) ty (.pointer (some ⟨r, f, none⟩)) (.pointer (some ⟨r, f', none⟩))).run P w = .ok (decide (f = f')) w) := by
  refine ⟨fun q => ?_, fun p => ?_, fun i r f f' hi hz => ?_⟩
  · simp only [Op.equalIn, Sem.run_bind, run_underlying hd, Result.andThen_ok, Sem.run_pure]
  · simp only [Op.equalIn, Sem.run_bind, run_underlying hd, Result.andThen_ok, Sem.run_pure]
  · simp only [Op.equalIn, Sem.run_bind, run_underlying hd, Result.andThen_ok, run_sizeOf hi]
    rw [if_pos hz]
    simp only [sameAddr, beq_self_eq_true, if_true]
    show Result.ok _ w = _
    by_cases hf : f = f'
    · subst hf; simp
    · simp [hf]
theorem equal_slice {ty e : TypeId} (hd : P.underlying ty = some (.slice e)) (d : Nat) :
    (∀ q n c m c', (Op.equalIn (d + 1) ty (.slice none n c) (.slice q m c')).run P w = .ok q.isNone w) ∧ (∀ p n c m c', (Op.equalIn (d + 1) ty (.slice (some p) n c) (.slice none m c')).run P w = .ok false w) := by
  refine ⟨fun q n c m c' => ?_, fun p n c m c' => ?_⟩
  · simp only [Op.equalIn, Sem.run_bind, run_underlying hd, Result.andThen_ok, Sem.run_pure]
  · simp only [Op.equalIn, Sem.run_bind, run_underlying hd, Result.andThen_ok, Sem.run_pure]
theorem someB_none {q q' : Option Addr} (h : q'.isSome = q.isSome) : q'.isNone = notB (someB q) := by cases q <;> cases q' <;> first | rfl | cases h
theorem ptrV {v : Value} {p : Option Addr} (h : VR σ (.pointer p) v) : ∃ q, v = .pointer q ∧ q.isSome = p.isSome := by
  cases p with
  | none => simp only [VR] at h; exact ⟨none, h, rfl⟩
  | some a => simp only [VR] at h; obtain ⟨r, x, _, _, h⟩ := h; exact ⟨_, h, rfl⟩
theorem sliceV {v : Value} {p : Option Addr} {n c : Nat} (h : VR σ (.slice p n c) v) : ∃ q d, v = .slice q n d ∧ q.isSome = p.isSome := by
  cases p with
  | none => simp only [VR] at h; exact ⟨none, c, h, rfl⟩
  | some a => simp only [VR] at h; obtain ⟨r, x, _, _, h⟩ := h; exact ⟨_, _, h, rfl⟩
theorem bin_of {k : K} {op : BinOp} {ty ty' : TypeId} {x y : Operand} (ho : o.op = .binOp op ty x y ty') (h : evBin P op ty x y o a s k = true) : ∃ v s', StepQ P base o a s v s' ∧ k v a s' = true := by
  have hsel : ∀ cs b, o.op ≠ .select cs b := by rw [ho]; intro _ _ e; cases e
  have hE : evBinE P op ty (ex a x) (ex a y) o a s k = true → ∃ v s', StepQ P base o a s v s' ∧ k v a s' = true := by
    intro h
    unfold evBinE at h
    cases hf : allFlat [ex a x, ex a y]
    · rw [hf] at h
      have h : evEq P op ty (ex a x) (ex a y) a s k = true := h
      have hop : ∃ no', ((op = .eql ∧ no' = false) ∨ (op = .neq ∧ no' = true)) ∧ (underK P ty fun d => psK d (fun e => ptrK (ex a x) fun p => ptrK (ex a y) fun q => samePtrK P e p q fun b => k (.bool (xorB no' b)) a s)
          (fun _ => sliceK (ex a x) fun p _ _ => sliceK (ex a y) fun q _ _ => sameSliceK p q fun b => k (.bool (xorB no' b)) a s)) = true := by
        rcases eqOpK_of h with ⟨h1, h2⟩ | ⟨h1, h2⟩
        · exact ⟨false, .inl ⟨h1, rfl⟩, h2⟩
        · exact ⟨true, .inr ⟨h1, rfl⟩, h2⟩
      obtain ⟨no', hop, h⟩ := hop
      obtain ⟨d, hd, h⟩ := underK_of h
      rcases psK_of h with ⟨e, rfl, h⟩ | ⟨e, rfl, h⟩
      · obtain ⟨p, hp, h1⟩ := ptrK_of h
        obtain ⟨q, hq, h2⟩ := ptrK_of h1
        have rel : ∀ {σ ρ}, OpsRel σ a ρ o.op → VR σ (.pointer p) (ρ x) ∧ VR σ (.pointer q) (ρ y) := fun hr =>
          ⟨by rw [← hp]; exact hr x (by simp [ho, Op.operands]), by rw [← hq]; exact hr y (by simp [ho, Op.operands])⟩
        cases p with
        | none =>
          refine eq_step ho no' (notB (someB q)) hop (fun σ ρ w hr => ?_) h2
          obtain ⟨r1, r2⟩ := rel hr
          obtain ⟨p', e1, e2⟩ := ptrV r1
          obtain ⟨q', e3, e4⟩ := ptrV r2
          cases p' with
          | some _ => cases e2
          | none =>
            rw [e1, e3]
            refine ⟨fun _ e => (by cases e), fun e => (by cases e), .inl ⟨_, rfl⟩, .inl ⟨_, rfl⟩, ?_⟩
            rw [← someB_none e4]
            exact (equal_ptr hd 9999).1 q'
        | some p =>
          cases q with
          | none =>
            refine eq_step ho no' false hop (fun σ ρ w hr => ?_) h2
            obtain ⟨r1, r2⟩ := rel hr
            obtain ⟨p', e1, e2⟩ := ptrV r1
            obtain ⟨q', e3, e4⟩ := ptrV r2
            cases q' with
            | some _ => cases e4
            | none =>
              cases p' with
              | none => cases e2
              | some p' =>
                rw [e1, e3]
                refine ⟨fun _ e => (by cases e), fun e => (by cases e), .inl ⟨_, rfl⟩, .inl ⟨_, rfl⟩, ?_⟩
                exact (equal_ptr hd 9999).2.1 p'
          | some q =>
            have h2' : (sizeK P e fun z => bif Nat.beq z 0 then false else addrK p fun b o => addrK q fun b' o' => bif Nat.beq b b' then k (.bool (xorB no' (Nat.beq o o'))) a s else false) = true := h2
            obtain ⟨i, hi, h3⟩ := sizeK_of h2'
            obtain ⟨hz, h4⟩ := cond_of' h3
            obtain ⟨b, f, rfl, h5⟩ := addrK_of h4
            obtain ⟨b', f', rfl, h6⟩ := addrK_of h5
            obtain ⟨hb, h7⟩ := cond_of h6
            have := beqN_true hb; subst this
            refine eq_step ho no' _ hop (fun σ ρ w hr => ?_) h7
            obtain ⟨r1, r2⟩ := rel hr
            simp only [VR] at r1 r2
            obtain ⟨r, y1, g1, _, e1⟩ := r1
            obtain ⟨r', y2, g2, _, e2⟩ := r2
            rw [g1] at g2; cases g2
            rw [e1, e2]
            refine ⟨fun _ e => (by cases e), fun e => (by cases e), .inl ⟨_, rfl⟩, .inl ⟨_, rfl⟩, ?_⟩
            have hz' : i.size ≠ 0 := fun e => by rw [e] at hz; exact absurd hz (by decide)
            rw [beqN]
            exact (equal_ptr hd 9999).2.2 i r f f' hi hz'
      · obtain ⟨p, n, c, hp, h1⟩ := sliceK_of h
        obtain ⟨q, m, c', hq, h2⟩ := sliceK_of h1
        have rel : ∀ {σ ρ}, OpsRel σ a ρ o.op → VR σ (.slice p n c) (ρ x) ∧ VR σ (.slice q m c') (ρ y) := fun hr =>
          ⟨by rw [← hp]; exact hr x (by simp [ho, Op.operands]), by rw [← hq]; exact hr y (by simp [ho, Op.operands])⟩
        cases p with
        | none =>
          refine eq_step ho no' (notB (someB q)) hop (fun σ ρ w hr => ?_) h2
          obtain ⟨r1, r2⟩ := rel hr
          obtain ⟨p', d1, e1, e2⟩ := sliceV r1
          obtain ⟨q', d2, e3, e4⟩ := sliceV r2
          cases p' with
          | some _ => cases e2
          | none =>
            rw [e1, e3]
            refine ⟨fun _ e => (by cases e), fun e => (by cases e), .inr ⟨_, _, _, rfl⟩, .inr ⟨_, _, _, rfl⟩, ?_⟩
            rw [← someB_none e4]
            exact (equal_slice hd 9999).1 q' _ _ _ _
        | some p =>
          cases q with
          | some q => exact no h2
          | none =>
            refine eq_step ho no' false hop (fun σ ρ w hr => ?_) h2
            obtain ⟨r1, r2⟩ := rel hr
            obtain ⟨p', d1, e1, e2⟩ := sliceV r1
            obtain ⟨q', d2, e3, e4⟩ := sliceV r2
            cases q' with
            | some _ => cases e4
            | none =>
              cases p' with
              | none => cases e2
              | some p' =>
                rw [e1, e3]
                refine ⟨fun _ e => (by cases e), fun e => (by cases e), .inr ⟨_, _, _, rfl⟩, .inr ⟨_, _, _, rfl⟩, ?_⟩
                exact (equal_slice hd 9999).2 p' _ _ _ _
    · rw [hf] at h
      exact plain_of hsel h
  unfold evBin at h
  rcases intE_of h with ⟨t, m, hx, h⟩ | h
  · rcases intE_of h with ⟨t', n, hy, h⟩ | h
    · cases he : eqKind t t'
      · rw [he] at h; exact plain_of hsel h
      · rw [he] at h
        have := eqKind_of he; subst this
        exact intB_of ho hx hy h
    · exact hE h
  · exact hE h
end
end Go.Ev
