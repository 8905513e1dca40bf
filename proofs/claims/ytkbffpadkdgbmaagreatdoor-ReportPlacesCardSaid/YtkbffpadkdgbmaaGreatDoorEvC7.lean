import Derived.Test.YtkbffpadkdgbmaaGreatDoorEvC6
/- Operations: maps that are looked into; conversions; lengths. -/
namespace Go.Ev
open Go Go.RowKit
set_option linter.unusedVariables false
set_option linter.unusedSimpArgs false
set_option linter.deprecated false

theorem ba_beq (x y : ByteArray) : (x == y) = (x.data.toList == y.data.toList) := by
  obtain ⟨⟨x⟩⟩ := x
  obtain ⟨⟨y⟩⟩ := y
  show ((⟨x⟩ : Array UInt8) == ⟨y⟩) = (x == y)
  simp
theorem sameNow_str (x y : ByteArray) : Instr.sameNow .string (.string x) (.string y) = some (x.data.toList == y.data.toList) := by
  simp only [Instr.sameNow, ba_beq]

section
variable {P : Program} {base : Nat} {σ : Emb} {s t : St} {w : World} {a : Fr} {o : Oper} {v : Value}

theorem findE_of {key : List UInt8} {k : Value → Bool} {z : Unit → Bool} : ∀ {es : List (Value × Value)}, findE key es k z = true →
    (∃ v, k v = true ∧ ∀ σ res n, F2 (ER σ) es res → ∃ i v', Instr.findNow .string (.string ⟨⟨key⟩⟩) res n = some (some (i, v')) ∧ VR σ v v') ∨
    (z () = true ∧ ∀ σ res n, F2 (ER σ) es res → Instr.findNow .string (.string ⟨⟨key⟩⟩) res n = some none)
  | [], h => .inr ⟨h, fun σ res n hr => by rw [hr]; rfl⟩
  | (u, v) :: es, h => by
    obtain ⟨b, hb, h1⟩ := strK_of h
    simp only at hb; subst hb
    have same : ∀ {e : MapEntry}, ((∃ k, Value.string b = .string k ∧ e.key = .string k)) → Instr.sameNow .string (.string ⟨⟨key⟩⟩) e.key = some (key == b.data.toList) := by
      rintro e ⟨k, e1, e2⟩
      cases e1
      rw [e2, sameNow_str]
    cases hk : (b.data.toList == key)
    · rw [hk, cond_false] at h1
      have hk' : (key == b.data.toList) = false := by rw [← hk, Bool.eq_iff_iff]; simp only [beq_iff_eq]; exact eq_comm
      rcases findE_of (es := es) h1 with ⟨v1, h2, h3⟩ | ⟨h2, h3⟩
      · refine .inl ⟨v1, h2, fun σ res n hr => ?_⟩
        obtain ⟨e, rest, rfl, he, hr⟩ := hr
        obtain ⟨i, v', h4, h5⟩ := h3 σ rest (n + 1) hr
        refine ⟨i, v', ?_, h5⟩
        simp only [Instr.findNow, same he.1, hk', h4]
      · refine .inr ⟨h2, fun σ res n hr => ?_⟩
        obtain ⟨e, rest, rfl, he, hr⟩ := hr
        simp only [Instr.findNow, same he.1, hk', h3 σ rest (n + 1) hr]
    · rw [hk, cond_true] at h1
      have hk' : (key == b.data.toList) = true := by rw [← hk, Bool.eq_iff_iff]; simp only [beq_iff_eq]; exact eq_comm
      refine .inl ⟨v, h1, fun σ res n hr => ?_⟩
      obtain ⟨e, rest, rfl, he, hr⟩ := hr
      exact ⟨n, e.val, by simp only [Instr.findNow, same he.1, hk'], he.2⟩
theorem run_checkKey {kt : TypeId} {b : Bool} {u : ByteArray} (hk : P.underlying kt = some .string) (n : Nat) : (Instr.checkKey b (n + 1) kt (.string u)).run P w = .ok () w := by
  simp [Instr.checkKey, run_underlying hk]
theorem okV_VR {ok b : Bool} {v v' : Value} (h : VR σ v v') : VR σ (okV ok v b) (if ok then .tuple #[v', .bool b] else v') := by
  cases ok
  · exact h
  · show VR σ (.tuple #[v, .bool b]) (.tuple #[v', .bool b])
    simp only [VR, AR]
    exact ⟨_, rfl, LR_F2.2 (F2.cons h (F2.cons (by simp only [VR]) F2.nil))⟩
theorem run_findKey {kt : TypeId} {key : Value} {res : List MapEntry} {r : Option (Nat × Value)} (hk : P.underlying kt = some .string) (h : Instr.findNow .string key res 0 = some r) : (Instr.findKey kt key res).run P w = .ok r w := by
  simp [Instr.findKey, run_underlying hk, h]
theorem run_getMap {r : Nat} {res : Array MapEntry} {cl : Nat} (h : w.heap[r]? = some (.map res cl)) : (getObj r).run P w = .ok (.map res cl) w := by
  simp only [getObj, Sem.run, h]
theorem HR.mapAt (h : HR P base σ t w) {b r x : Nat} {es : List (Value × Value)} (hσ : σ b = some (r, x)) (hb : t.blk b = .map es) : ∃ res cl, w.heap[r]? = some (.map res cl) ∧ F2 (ER σ) es res.toList ∧ base ≤ r := by
  have := h.blk b r x hσ
  rw [hb] at this
  exact this
theorem str_eta (b : ByteArray) : (⟨⟨b.data.toList⟩⟩ : ByteArray) = b := rfl
theorem lookup_of {k : K} {ty : TypeId} {x ix : Operand} {ok : Bool} (hs : s.Ok) (ho : o.op = .lookup ty x ix ok) (h : evLookup P ty x ix ok a s k = true) : ∃ v s', StepQ P base o a s v s' ∧ k v a s' = true := by
  obtain ⟨d, hd, h1⟩ := underK_of h
  obtain ⟨kt, et, rfl, h2⟩ := mapTK_of h1
  obtain ⟨kd, hk, h3⟩ := underK_of h2
  obtain ⟨g, h4⟩ := cond_of h3
  have := isStr_of g; subst this
  obtain ⟨key, hkey, h5⟩ := strK_of h4
  obtain ⟨m, hm, h6⟩ := mapK_of h5
  have opr : ∀ {σ ρ}, OpsRel σ a ρ o.op → VR σ (.map m) (ρ x) ∧ ρ ix = .string key := fun hr => by
    have h1 := hr x (by simp [ho, Op.operands])
    have h2 := hr ix (by simp [ho, Op.operands])
    rw [hm] at h1; rw [hkey] at h2
    simp only [VR] at h2
    exact ⟨h1, h2⟩
  have zero : zeroK P et (fun z => k (okV ok z false) a s) = true → ∃ z, k (okV ok z false) a s = true ∧ (∀ w, (zeroValue et).run P w = .ok z w) ∧ ∀ σ : Emb, VR σ z z := fun h => by
    obtain ⟨i, z, hi, hz, hf, h⟩ := zeroK_of h
    exact ⟨z, h, fun w => run_zeroValue hi hz, fun σ => flat_refl z hf⟩
  cases m with
  | none =>
    obtain ⟨z, hz1, hz2, hz3⟩ := zero h6
    refine ⟨_, s, StepP.q fun σ t' ρ w _ hr => ⟨if ok then .tuple #[z, .bool false] else z, .inl ?_, okV_VR (hz3 σ)⟩, hz1⟩
    obtain ⟨e1, e2⟩ := opr hr
    simp only [VR] at e1
    have hfn : Instr.findNow .string (.string key) [] 0 = some none := rfl
    cases ok <;> simp [execOp, ho, e1, e2, Instr.lookup, run_underlying hd, run_checkKey hk, run_findKey hk hfn, hz2]
  | some b =>
    obtain ⟨es, hb, h7⟩ := mapBK_of h6
    have agree : ∀ {t' : St}, (∀ b, b < s.next → t'.blk b = s.blk b) → t'.blk b = .map es := fun hag => by
      rw [hag b (hs.lt (by rw [hb]; exact fun e => by cases e))]; exact hb
    rcases findE_of h7 with ⟨v, h8, h9⟩ | ⟨h8, h9⟩
    · refine ⟨_, s, .inr ⟨by simp [ho, reads], rfl, fun σ t' ρ w hrr hr hag _ => ?_⟩, h8⟩
      obtain ⟨e1, e2⟩ := opr hr
      simp only [VR] at e1
      obtain ⟨r, y, hσ, e1⟩ := e1
      obtain ⟨res, cl, m1, m2, _⟩ := hrr.mapAt hσ (agree hag)
      obtain ⟨i, v', f1, f2⟩ := h9 σ res.toList 0 m2
      rw [str_eta] at f1
      refine ⟨if ok then .tuple #[v', .bool true] else v', w, .inl ?_, okV_VR f2, hrr, Below.refl _ _⟩
      cases ok <;> simp [execOp, ho, e1, e2, Instr.lookup, run_underlying hd, run_getMap m1, run_checkKey hk, run_findKey hk f1]
    · obtain ⟨z, hz1, hz2, hz3⟩ := zero h8
      refine ⟨_, s, .inr ⟨by simp [ho, reads], rfl, fun σ t' ρ w hrr hr hag _ => ?_⟩, hz1⟩
      obtain ⟨e1, e2⟩ := opr hr
      simp only [VR] at e1
      obtain ⟨r, y, hσ, e1⟩ := e1
      obtain ⟨res, cl, m1, m2, _⟩ := hrr.mapAt hσ (agree hag)
      have f1 := h9 σ res.toList 0 m2
      rw [str_eta] at f1
      refine ⟨if ok then .tuple #[z, .bool false] else z, w, .inl ?_, okV_VR (hz3 σ), hrr, Below.refl _ _⟩
      cases ok <;> simp [execOp, ho, e1, e2, Instr.lookup, run_underlying hd, run_getMap m1, run_checkKey hk, run_findKey hk f1, hz2]

/-! Lengths. -/
theorem type0_of {c : Call} {k : TypeId → Bool} (h : type0 c k = true) : ∃ t, c.argTypes[0]? = some t ∧ k t = true := by
  obtain ⟨t, h1, h2⟩ := nthK_of h
  exact ⟨t, by rw [← Array.getElem?_toList]; exact h1, h2⟩
/-- The arguments of a builtin. -/
theorem args_F2 {c : Call} {b : Builtin} {ρ : Operand → Value} (ho : o.op = .call c) (hc : c.callee = .builtin b) (hr : OpsRel σ a ρ o.op) : F2 (VR σ) (exs a c.args.toList) (c.args.map ρ).toList := by
  unfold exs
  rw [mapL_eq, Array.toList_map]
  exact F2.same fun x hx => hr x (by simp only [ho, Op.operands, Call.operands, hc, Array.mem_append]; exact .inr (by simpa using hx))
theorem arg_get {c : Call} {b : Builtin} {ρ : Operand → Value} (ho : o.op = .call c) (hc : c.callee = .builtin b) (hr : OpsRel σ a ρ o.op) {n : Nat} {v : Value} (hn : (exs a c.args.toList)[n]? = some v) :
    ∃ v', (c.args.map ρ)[n]? = some v' ∧ VR σ v v' := by
  obtain ⟨v', h1, h2⟩ := (args_F2 ho hc hr).get n hn
  exact ⟨v', by rw [← Array.getElem?_toList]; exact h1, h2⟩
theorem builtin_run {c : Call} {b : Builtin} {ρ : Operand → Value} {v : Value} {w' : World} (ho : o.op = .call c) (hc : c.callee = .builtin b)
    (h : (builtin b c.argTypes o.type (c.args.map fun | .const _ => true | _ => false) (c.args.map ρ)).run P w = .ok (.value v) w') : (execOp ρ o).run P w = .ok (.value v) w' := by
  simp only [execOp, ho, resolve, hc]
  exact h
theorem len_of {k : K} {c : Call} {ty : TypeId} (hs : s.Ok) (ho : o.op = .call c) (hc : c.callee = .builtin .len) (ht : c.argTypes[0]? = some ty) (h : evLen P ty (exs a c.args.toList) a s k = true) :
    ∃ v s', StepQ P base o a s v s' ∧ k v a s' = true := by
  obtain ⟨v, hv, h1⟩ := nthK_of h
  obtain ⟨d, hd, h2⟩ := underK_of h1
  have run : ∀ {σ ρ w n}, OpsRel σ a ρ o.op → (∀ v', VR σ v v' → (Builtin.len_ c.argTypes o.type (c.args.map ρ)).run P w = .ok (.int .i64 n) w) → (execOp ρ o).run P w = .ok (.value (.int .i64 n)) w := by
    intro σ ρ w n hr hh
    obtain ⟨v', h1, h2⟩ := arg_get ho hc hr hv
    refine builtin_run ho hc ?_
    simp only [builtin, Sem.run_bind, hh v' h2]
    rfl
  rcases sliceE_of h2 with ⟨p, n, cc, rfl, h3⟩ | ⟨b, rfl, h3⟩ | h3
  · obtain ⟨e, rfl, h4⟩ := sliceTK_of h3
    refine ⟨_, s, StepP.q fun σ t' ρ w _ hr => ⟨.int .i64 (.ofNat n), .inl (run hr fun v' hv' => ?_), by simp only [VR]⟩, h4⟩
    obtain ⟨v'', h5, h6⟩ := arg_get ho hc hr hv
    obtain ⟨q, dd, rfl, _⟩ := sliceV h6
    simp [Builtin.len_, ht, h5, run_underlying hd, goInt]
  · obtain ⟨g, h4⟩ := cond_of h3
    have := isStr_of g; subst this
    refine ⟨_, s, StepP.q fun σ t' ρ w _ hr => ⟨.int .i64 (.ofNat (lenL b.data.toList)), .inl (run hr fun v' hv' => ?_), by simp only [VR]⟩, h4⟩
    obtain ⟨v'', h5, h6⟩ := arg_get ho hc hr hv
    simp only [VR] at h6; subst h6
    have hlen : lenL b.data.toList = b.size := by rw [lenL_eq, Array.length_toList]; rfl
    simp [Builtin.len_, ht, h5, run_underlying hd, goInt, hlen]
  · obtain ⟨kt, et, rfl, h4⟩ := mapTK_of h3
    obtain ⟨m, rfl, h5⟩ := mapK_of h4
    cases m with
    | none =>
      refine ⟨_, s, StepP.q fun σ t' ρ w _ hr => ⟨.int .i64 (.ofNat 0), .inl (run hr fun v' hv' => ?_), by simp only [VR]⟩, h5⟩
      obtain ⟨v'', h5, h6⟩ := arg_get ho hc hr hv
      simp only [VR] at h6; subst h6
      simp [Builtin.len_, ht, h5, run_underlying hd, goInt]
    | some b =>
      obtain ⟨es, hb, h6⟩ := mapBK_of h5
      refine ⟨_, s, .inr ⟨by simp [ho, reads], rfl, fun σ t' ρ w hrr hr hag _ => ?_⟩, h6⟩
      have hb' : t'.blk b = .map es := by rw [hag b (hs.lt (by rw [hb]; exact fun e => by cases e))]; exact hb
      obtain ⟨v'', h5, h6⟩ := arg_get ho hc hr hv
      simp only [VR] at h6
      obtain ⟨r, y, hσ, rfl⟩ := h6
      obtain ⟨res, cl, m1, m2, _⟩ := hrr.mapAt hσ hb'
      have hl : res.size = lenL es := by have := m2.length; rw [lenL_eq]; simpa using this
      refine ⟨.int .i64 (.ofNat (lenL es)), w, .inl (run hr fun v' hv' => ?_), by simp only [VR], hrr, Below.refl _ _⟩
      simp [Builtin.len_, ht, h5, run_underlying hd, goInt, run_getMap m1, hl]
theorem sliceData_of {k : K} {c : Call} (ho : o.op = .call c) (hc : c.callee = .builtin .unsafeSliceData) (h : evSliceData (exs a c.args.toList) a s k = true) :
    ∃ v s', StepQ P base o a s v s' ∧ k v a s' = true := by
  obtain ⟨v, hv, h0⟩ := nthK_of h
  obtain ⟨g0, h1⟩ := cond_of h0
  have hone : c.args.size = 1 := by
    have e := nilL_of g0
    rw [dropL_eq] at e
    have e1 := congrArg List.length e
    have e2 := (List.getElem?_eq_some_iff.1 hv).1
    have e3 : (exs a c.args.toList).length = c.args.size := by unfold exs; rw [mapL_eq]; simp
    simp only [List.length_drop, List.length_nil] at e1
    omega
  obtain ⟨p, n, cc, rfl, h2⟩ := sliceK_of h1
  have args : ∀ {ρ : Operand → Value} {u}, (c.args.map ρ)[0]? = some u → c.args.map ρ = #[u] := by
    intro ρ u hu
    apply Array.ext'
    have h1 : (c.args.map ρ).toList.length = 1 := by simp [hone]
    obtain ⟨z, hz⟩ := List.length_eq_one_iff.1 h1
    rw [hz]
    rw [← Array.getElem?_toList, hz] at hu
    simp at hu
    simp [hu]
  cases p with
  | none =>
    refine ⟨_, s, StepP.q fun σ t' ρ w _ hr => ⟨.pointer none, .inl (builtin_run ho hc ?_), by simp only [VR]⟩, h2⟩
    obtain ⟨v'', h5, h6⟩ := arg_get ho hc hr hv
    simp only [VR] at h6; subst h6
    rw [args h5]
    rfl
  | some q =>
    obtain ⟨g, h3⟩ := cond_of' (show (bif Nat.beq cc 0 then false else k (.pointer (some q)) a s) = true from h2)
    have hcc : cc ≠ 0 := fun e => by rw [e] at g; exact absurd g (by decide)
    refine ⟨_, s, StepP.q fun σ t' ρ w _ hr => ?_, h3⟩
    obtain ⟨v'', h5, h6⟩ := arg_get ho hc hr hv
    simp only [VR] at h6
    obtain ⟨r, y, hσ, hsp, rfl⟩ := h6
    refine ⟨.pointer (some ⟨r, q.off, none⟩), .inl (builtin_run ho hc ?_), by simp only [VR]; exact ⟨r, y, hσ, hsp, rfl⟩⟩
    have : cc + y ≠ 0 := by omega
    have e : ∀ ty, Builtin.unsafeSliceData_ c.argTypes ty #[.slice (some ⟨r, q.off, none⟩) n (cc + y)] = (if cc + y ≠ 0 then pure (.pointer (some ⟨r, q.off, none⟩)) else
      (do if (← viewAt r).isSome then pure (.pointer (some ⟨r, q.off, none⟩)) else pure (.pointer (some ⟨← newObj (.view ⟨r, q.off, none⟩ (← elemOf ty)), 0, none⟩)))) := fun ty => rfl
    rw [args h5]
    simp only [builtin, e, if_pos this]
    rfl
end
end Go.Ev
