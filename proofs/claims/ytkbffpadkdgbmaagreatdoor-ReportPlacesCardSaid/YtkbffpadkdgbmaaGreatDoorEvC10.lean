import Derived.Test.YtkbffpadkdgbmaaGreatDoorEvC9
/- Loud operations: append. -/
namespace Go.Ev
open Go Go.RowKit Go.Lib
set_option linter.unusedVariables false
set_option linter.unusedSimpArgs false
set_option linter.deprecated false
section
variable {P : Program} {base : Nat} {σ : Emb} {s t : St} {w : World} {a : Fr} {o : Oper} {v : Value}
theorem cell_heap {w w' : World} (h : w'.heap = w.heap) (p : Addr) : w'.cell? p = w.cell? p := by simp [World.cell?, h]
theorem newsK_of {z : Nat} {v : Value} {k : Nat → List Value → Bool} (h : newsK z s v k = true) :
    ∃ n news, k n news = true ∧ news.length = n * z ∧ ∀ σ w v', HR P base σ s w → VR σ v v' → ∃ nv, F2 (VR σ) news nv ∧ (∀ w, (Builtin.lenOf v').run P w = .ok n w) ∧
      ∀ w₂ : World, w₂.heap = w.heap → (Builtin.firstCells z n v').run P w₂ = .ok nv.toArray w₂ := by
  rcases sliceE_of h with ⟨p, n, c, rfl, h1⟩ | ⟨b, rfl, h1⟩ | h1
  · cases p with
    | none =>
      obtain ⟨g, h2⟩ := cond_of (show (bif Nat.beq n 0 then k 0 [] else false) = true from h1)
      have := beqN_true g; subst this
      refine ⟨0, [], h2, by simp, fun σ w v' _ hv => ⟨[], rfl, fun w => ?_, fun w₂ _ => ?_⟩⟩
      · simp only [VR] at hv; subst hv; rfl
      · simp only [VR] at hv; subst hv; rfl
    | some p =>
      obtain ⟨b, f, cc, e, q, rfl, hb, hn, hok, h2⟩ := readK_of (show readK s p (Nat.mul n z) (fun c => k n c) = true from h1)
      refine ⟨n, _, h2, by rw [List.length_take]; exact Nat.min_eq_left hn, fun σ w v' hr hv => ?_⟩
      simp only [VR] at hv
      obtain ⟨r, y, hσ, _, rfl⟩ := hv
      obtain ⟨l', h3, h4, h5⟩ := hr.vals hσ hb hn hok
      refine ⟨l', h3, fun w => rfl, fun w₂ hw => ?_⟩
      exact run_firstCells_some (P := P) w₂ z n ⟨r, f, none⟩ n (c + y) l' h4 (fun j v hj => by rw [addr_add, cell_heap hw]; exact h5 j v hj)
  · obtain ⟨g, h2⟩ := cond_of h1
    have := beqN_true g; subst this
    have hl : lenL b.data.toList = b.size := by rw [lenL_eq, Array.length_toList]; rfl
    refine ⟨_, _, h2, by rw [mapL_eq, List.length_map, lenL_eq, Nat.mul_one], fun σ w v' _ hv => ⟨b.data.toList.map byteV, ?_, fun w => ?_, fun w₂ _ => ?_⟩⟩
    · rw [mapL_eq]; exact F2.same fun c _ => by simp only [byteV, VR]
    · simp only [VR] at hv; subst hv; rw [hl]; rfl
    · simp only [VR] at hv; subst hv
      rw [hl]
      show Result.ok _ w₂ = _
      congr 1
      apply Array.ext'
      have : b.extract 0 b.size = b := by
        apply ByteArray.ext
        apply Array.ext'
        rw [ByteArray.data_extract, Array.toList_extract, List.extract_eq_drop_take]
        simp
        exact List.take_of_length_le (by rw [Array.length_toList]; exact Nat.le_refl _)
      rw [this]
      simp [byteV]
  · exact no h1
theorem notMakeK_of {c : Call} {k : Unit → Bool} (h : notMakeK P c k = true) : ∃ u d, c.argTypes[1]? = some u ∧ P.underlying u = some d ∧ isInt d = false ∧ k () = true := by
  obtain ⟨u, h1, h2⟩ := nthK_of h
  obtain ⟨d, h3, h4⟩ := underK_of h2
  obtain ⟨h5, h6⟩ := cond_of' h4
  exact ⟨u, d, by rw [← Array.getElem?_toList]; exact h1, h3, h5, h6⟩
theorem smallK_of {e : TypeId} {need : Nat} {k : Unit → Bool} (h : smallK P e need k = true) : ∃ i, P.info? e = some i ∧ i.bytes ≤ 65536 ∧ need ≤ 1048576 ∧ k () = true := by
  obtain ⟨i, hi, h1⟩ := infoK_of h
  obtain ⟨h2, h3⟩ := cond_of h1
  obtain ⟨h4, h5⟩ := cond_of h3
  exact ⟨i, hi, Nat.le_of_ble_eq_true h2, Nat.le_of_ble_eq_true h4, h5⟩
/-- What append does, whatever it appends. -/
theorem append_room {ats : Array TypeId} {ty t u e : TypeId} {d : TypeDesc} {i : TypeInfo} {args : Array Value} {xv : Value} {p : Option Addr} {len cap n : Nat} {nv : List Value}
    (h0 : ats[0]? = some t) (h1 : ats[1]? = some u) (ht : P.underlying t = some (.slice e)) (hu : P.underlying u = some d) (hd : isInt d = false) (hi : P.info? e = some i)
    (a0 : args[0]? = some (.slice p len cap)) (a1 : args[1]? = some xv) (hl : ∀ w, (Builtin.lenOf xv).run P w = .ok n w) (hf : (Builtin.firstCells i.size n xv).run P w = .ok nv.toArray w) (hroom : len + n ≤ cap) {w' : World}
    (hst : ∀ b, p = some b → (storeCells (b.add (len * i.size)) nv).run P w = .ok () w') (hno : p = none → w' = w) :
    (Builtin.append_ ats ty args).run P w = .ok (.slice p (len + n) cap) w' := by
  unfold Builtin.append_
  rw [h0, a0, a1, h1]
  simp only [Sem.run_bind, run_underlying ht, Result.andThen_ok, run_sizeOf hi, run_underlying hu, Sem.run_pure, hl]
  cases d <;> first
    | exact no hd.symm
    | (simp only [Bool.false_eq_true, if_false, Bool.not_false, if_true, Sem.run_bind, hl, Result.andThen_ok, if_pos hroom, hf]
       cases p with
       | none => have := hno rfl; subst this; rfl
       | some b => simp only [Sem.run_bind, hst b rfl, Result.andThen_ok, Sem.run_pure])
theorem append_grow {ats : Array TypeId} {ty t u e : TypeId} {d : TypeDesc} {i : TypeInfo} {z : Value} {args : Array Value} {xv : Value} {p : Option Addr} {len cap n : Nat} {ov nv : List Value}
    (h0 : ats[0]? = some t) (h1 : ats[1]? = some u) (ht : P.underlying t = some (.slice e)) (hu : P.underlying u = some d) (hd : isInt d = false) (hi : P.info? e = some i) (hzv : i.zero = some z)
    (a0 : args[0]? = some (.slice p len cap)) (a1 : args[1]? = some xv) (hl : ∀ w, (Builtin.lenOf xv).run P w = .ok n w) (hf : (Builtin.firstCells i.size n xv).run P w.drew = .ok nv.toArray w.drew)
    (ho : (Builtin.firstCells i.size len (.slice p len cap)).run P w.drew = .ok ov.toArray w.drew) (hgrow : cap < len + n) (hs1 : len + n ≤ 1048576) (hs2 : i.bytes ≤ 65536) :
    (Builtin.append_ ats ty args).run P w = .ok (.slice (some ⟨w.heap.size, 0, none⟩) (len + n) (grownCap w (len + n) cap e))
      (w.drew.alloc (.cells (ov.toArray ++ nv.toArray ++ Builtin.zeroCells z.cells (grownCap w (len + n) cap e - (len + n))) e)) := by
  have hn : ¬ (len + n ≤ cap) := by omega
  have h63' : ¬ (9223372036854775807 < ((len : Int) + (n : Int))) := by omega
  have hfit := growslice_fits (need := len + n) (old := cap) (bytes := i.bytes) hgrow (by
    have : (len + n) * i.bytes ≤ 1048576 * 65536 := Nat.mul_le_mul hs1 hs2
    omega)
  have h48' : ¬ (281474976710656 < Builtin.nextslicecap (len + n) cap * i.bytes) := by omega
  unfold Builtin.append_
  rw [h0, a0, a1, h1]
  simp only [Sem.run_bind, run_underlying ht, Result.andThen_ok, run_sizeOf hi, run_underlying hu, Sem.run_pure, hl]
  have hmax : IntKind.i64.max = 9223372036854775807 := rfl
  have g1 : ¬ (((len + n : Nat) : Int) > IntKind.i64.max) := by rw [hmax]; omega
  have g2 : ¬ (Builtin.nextslicecap (len + n) cap * i.bytes > 2 ^ 48) := by omega
  have hq : (Question.appendCap (len + n) cap e).forced = false := rfl
  have hc : (choose (.appendCap (len + n) cap e)).run P w = .ok (grownCap w (len + n) cap e) w.drew := by
    rw [run_choose_drew, if_neg (by rw [hq]; decide)]; rfl
  cases d <;> first
    | exact no hd.symm
    | (simp only [Bool.false_eq_true, if_false, Bool.not_false, if_true, Sem.run_bind, hl, Result.andThen_ok, if_neg hn, run_typeInfo hi, g1, false_and, if_neg g2, hc, run_askRoom, ho, hf, run_zeroValue hi hzv, run_newRow, Sem.run_pure]
       rfl)
theorem baseK_some {e : TypeId} {z len cap : Nat} {p : Addr} {k : List Value → St → Bool} (h : baseK e z len cap s (some p) k = true) :
    addrK p (fun b o => bif Nat.beq o 0 then blkK s b fun c e' q => ownK q fun _ => bif Nat.beq e e' then bif Nat.beq (Nat.mul cap z) (lenL c) then
      takeK (Nat.mul len z) c fun c => putK s b .dead fun s => k c s else false else false else false) = true := h
theorem zeroCells_len (z : Array Value) (n : Nat) : (Builtin.zeroCells z n).size = n * z.size := by simp [Builtin.zeroCells]
theorem append_of {k : K} {c : Call} {ty : TypeId} (ho : o.op = .call c) (hc : c.callee = .builtin .append) (hty : c.argTypes[0]? = some ty) (h : evAppend P c ty (exs a c.args.toList) a s k = true) :
    ∃ v s', StepW P base o a s v s' ∧ k v a s' = true := by
  obtain ⟨v0, hv0, h1⟩ := nthK_of h
  obtain ⟨v1, hv1, h2⟩ := nthK_of h1
  obtain ⟨p, len, cap, rfl, h3⟩ := sliceK_of h2
  obtain ⟨d, hd, h4⟩ := underK_of h3
  obtain ⟨e, rfl, h5⟩ := sliceTK_of h4
  obtain ⟨i, hi, h6⟩ := sizeK_of h5
  obtain ⟨u, du, hu1, hu2, hu3, h7⟩ := notMakeK_of h6
  obtain ⟨n, news, h8, hnl, hnews⟩ := newsK_of h7
  obtain ⟨g1, h9⟩ := cond_of h8
  have hlc : len ≤ cap := Nat.le_of_ble_eq_true g1
  have args : ∀ {σ ρ}, OpsRel σ a ρ o.op → ∃ w0 w1, (c.args.map ρ)[0]? = some w0 ∧ VR σ (.slice p len cap) w0 ∧ (c.args.map ρ)[1]? = some w1 ∧ VR σ v1 w1 := fun hr => by
    obtain ⟨w0, e1, e2⟩ := arg_get ho hc hr hv0
    obtain ⟨w1, e3, e4⟩ := arg_get ho hc hr hv1
    exact ⟨w0, w1, e1, e2, e3, e4⟩
  have run : ∀ {ρ : Operand → Value} {w v w'}, (Builtin.append_ c.argTypes o.type (c.args.map ρ)).run P w = .ok v w' → Gives ((execOp ρ o).run P w) v w' := fun h => .inl (builtin_run ho hc (by simp only [builtin, Sem.run_bind, h, Result.andThen_ok]; rfl))
  cases hn0 : Nat.beq n 0
  · rw [hn0] at h9
    obtain ⟨g2, h10⟩ := cond_of (show (bif allCell news then _ else false) = true from h9)
    obtain ⟨i', hi', b1, b2, h11⟩ := smallK_of h10
    obtain ⟨i2, z, hi2, hz, hzf, h12⟩ := zeroK_of h11
    obtain ⟨g3, h13⟩ := cond_of h12
    have : i' = i := by rw [hi] at hi'; cases hi'; rfl
    subst this
    have : i2 = i' := by rw [hi'] at hi2; cases hi2; rfl
    subst this
    have hzs : z.cells.size = i2.size := by have := beqN_true g3; rw [lenL_eq, cellsL_eq] at this; simpa using this
    have hn : n ≠ 0 := fun e => by rw [e] at hn0; exact absurd hn0 (by decide)
    have hcz : P.cellsOf e = i2.size := cellsOf_eq hi
    -- the new row, wherever it is laid
    have lay : ∀ {τ : Emb} {r x : Nat}, τ s.next = some (r, x) → VR τ (.slice (some ⟨s.next, 0, none⟩) (len + n) (len + n)) (.slice (some ⟨r, 0, none⟩) (len + n) (len + n + x)) := fun h => slice_VR h _ _ _
    -- it grows
    have grow : ∀ {σ ρ w} {cap' : Nat} {p' : Option Addr} {w1 : Value} {old ov nv : List Value} {s1 s' : St}, HR P base σ s1 w → s1.next = s.next → (∀ b, σ b = none → s1.blk b = s.blk b) → (s.Ok → s1.Ok) → s1.New (.cells (appL old news) e .roomy) s' →
        (c.args.map ρ)[0]? = some (.slice p' len cap') → (c.args.map ρ)[1]? = some w1 → (∀ w, (Builtin.lenOf w1).run P w = .ok n w) → (Builtin.firstCells i2.size n w1).run P w.drew = .ok nv.toArray w.drew →
        (Builtin.firstCells i2.size len (.slice p' len cap')).run P w.drew = .ok ov.toArray w.drew → F2 (CR σ) old ov → F2 (VR σ) news nv → old.length = len * i2.size → cap' < len + n →
        ∃ τ v' w', Gives ((execOp ρ o).run P w) v' w' ∧ Ext σ s τ s' ∧ HR P base τ s' w' ∧ Below base w w' ∧ VR τ (.slice (some ⟨s1.next, 0, none⟩) (len + n) (len + n)) v' := by
      intro σ ρ w cap' p' w1 old ov nv s1 s' hr hnx hbl hok hnew a0 a1 hl hf hof hov hnv hol hg
      have hrun := append_grow (P := P) (w := w) (ty := o.type) hty hu1 hd hu2 hu3 hi hz a0 a1 hl hf hof hg b2 b1
      have hge := grownCap_ge w (len + n) cap' e
      have hol' := hov.length
      have hnl' := hnv.length
      have e1 : (len + n) * i2.size = len * i2.size + n * i2.size := Nat.add_mul _ _ _
      have hal : (appL old news).length = (len + n) * i2.size := by rw [appL_eq, List.length_append, hol, hnl, e1]
      have hrs : (ov.toArray ++ nv.toArray ++ Builtin.zeroCells z.cells (grownCap w (len + n) cap' e - (len + n))).size = (len + n) * i2.size + (grownCap w (len + n) cap' e - (len + n)) * i2.size := by
        simp only [Array.size_append, List.size_toArray, zeroCells_len, hzs]
        rw [hol', hnl', hol, hnl, e1]
      have hrd : HR P base σ s1 w.drew := hr.world hr.size (fun _ _ => rfl)
      have hlay := (hrd.new hnew).layRow (b := s1.next) (x := grownCap w (len + n) cap' e - (len + n)) (rc := ov.toArray ++ nv.toArray ++ Builtin.zeroCells z.cells (grownCap w (len + n) cap' e - (len + n))) (fz := (0, 0))
        hr.open (by rw [hnew.next]; omega) (by rw [hnew.blk, if_pos rfl]) ?_ (by rw [hrs, hal, hcz]) (.inl rfl) (.inl rfl)
      · refine ⟨_, _, _, run hrun, ?_, hlay, ((Below.refl base w).drew).alloc hr.size _, ?_⟩
        · refine ⟨Emb.le_put hr.open, by rw [hnew.next, hnx]; omega, fun b hb hσ => ?_, fun hs => hnew.ok (hok hs)⟩
          refine ⟨by rw [Emb.put_ne (by omega)]; exact hσ, ?_⟩
          rw [hnew.blk, if_neg (by omega)]
          exact hbl b hσ
        · have := slice_VR (τ := σ.put s1.next (w.heap.size, grownCap w (len + n) cap' e - (len + n))) (b := s1.next) Emb.put_self 0 (len + n) (len + n)
          have e2 : len + n + (grownCap w (len + n) cap' e - (len + n)) = grownCap w (len + n) cap' e := by omega
          rw [e2] at this
          exact this
      · have : (ov.toArray ++ nv.toArray ++ Builtin.zeroCells z.cells (grownCap w (len + n) cap' e - (len + n))).toList.take (appL old news).length = ov ++ nv := by
          rw [hal, e1, ← hol, ← hnl, ← hol', ← hnl', ← List.length_append]
          simp only [Array.toList_append]
          exact List.take_left
        rw [this, appL_eq]
        exact hov.append (F2_cr hnv)
    cases p with
    | none =>
      obtain ⟨g4, h14⟩ := cond_of (show (bif Nat.beq cap 0 then _ else false) = true from h13)
      have hcap : cap = 0 := beqN_true g4
      subst hcap
      have hlen : len = 0 := by omega
      subst hlen
      obtain ⟨s', hnew, h15⟩ := newK_of h14
      refine ⟨_, s', ⟨hnew.up, fun σ ρ w hr hor => ?_⟩, h15⟩
      obtain ⟨w0, w1, a0, r0, a1, r1⟩ := args hor
      simp only [VR] at r0; subst r0
      obtain ⟨nv, f1, f2, f3⟩ := hnews σ w w1 hr r1
      exact grow (cap' := 0) (ov := []) hr rfl (fun _ _ => rfl) id hnew a0 a1 f2 (f3 w.drew rfl) rfl F2.nil f1 (by simp) (by omega)
    | some p =>
      obtain ⟨b, f, rfl, h14⟩ := addrK_of (baseK_some h13)
      obtain ⟨g4, h15⟩ := cond_of h14
      have := beqN_true g4; subst this
      obtain ⟨cc, e', q, hb, h16⟩ := blkK_of h15
      obtain ⟨hq, h17⟩ := ownK_of h16
      obtain ⟨g5, h18⟩ := cond_of h17
      have := beqN_true g5; subst this
      obtain ⟨g6, h19⟩ := cond_of h18
      have hccl : cap * i2.size = cc.length := by have := beqN_true g6; rwa [lenL_eq] at this
      obtain ⟨g7, h20⟩ := takeK_of h19
      obtain ⟨s1, hp1, h21⟩ := putK_of h20
      obtain ⟨s', hnew, h22⟩ := newK_of h21
      have hnew : s1.New (.cells (appL (cc.take (len * i2.size)) news) e .roomy) s' := hnew
      have g7 : len * i2.size ≤ cc.length := g7
      refine ⟨_, s', ⟨(hp1.up (ne_dead hb)).trans hnew.up, fun σ ρ w hr hor => ?_⟩, h22⟩
      obtain ⟨w0, w1, a0, r0, a1, r1⟩ := args hor
      simp only [VR] at r0
      obtain ⟨r, x, hσ, _, rfl⟩ := r0
      obtain ⟨nv, f1, f2, f3⟩ := hnews σ w w1 hr r1
      have hdead : HR P base σ s1 w := hr.put (w' := w) hσ (ne_dead hb) hp1 trivial hr.size (fun _ _ => rfl)
      have hbl : ∀ c, σ c = none → s1.blk c = s.blk c := fun c hcn => by rw [hp1.blk, if_neg (fun e => by rw [e, hσ] at hcn; cases hcn)]
      by_cases hroom : len + n ≤ cap + x
      · -- in place
        have hB := hr.blk b r x hσ
        rw [hb] at hB
        obtain ⟨rc, fz, m1, m2, m3, m4, m5⟩ := hB.own hq
        obtain ⟨m6, m7⟩ := m5 hq
        rw [hcz, ← hccl, ← Nat.add_mul] at m3
        have hnl' := f1.length
        have e1 : (len + n) * i2.size = len * i2.size + n * i2.size := Nat.add_mul _ _ _
        have hle : (len + n) * i2.size ≤ rc.size := by rw [m3]; exact Nat.mul_le_mul_right _ hroom
        have hone : ∀ v ∈ nv, v.oneCell' = true := by
          have : ∀ {l l' : List Value}, F2 (VR σ) l l' → (∀ v ∈ l, cellOk v = true) → ∀ v ∈ l', v.oneCell' = true := by
            intro l
            induction l with
            | nil => intro l' h _ v hv; rw [h] at hv; cases hv
            | cons a l ih =>
              rintro l' ⟨a', t', rfl, ha, ht⟩ hk v hv
              cases hv with
              | head => exact ha.one (hk a List.mem_cons_self)
              | tail _ hv => exact ih ht (fun v hv => hk v (List.mem_cons_of_mem _ hv)) v hv
          exact this f1 (allCell_of g2)
        have hst := run_storeThawed P r (len * i2.size) e fz nv 0 rc w m1 m7 (by omega) hone
        simp only [Nat.add_zero] at hst
        have hrun := append_room (P := P) (w := w) (ty := o.type) hty hu1 hd hu2 hu3 hi a0 a1 f2 (f3 w rfl) hroom
          (fun bb e => by cases e; rw [addr_add, Nat.zero_add]; exact hst) (fun e => by cases e)
        have hdead' : HR P base σ s1 (w.setRow r (rc.toList.take (len * i2.size) ++ nv ++ rc.toList.drop (len * i2.size + nv.length)).toArray) :=
          hr.put hσ (ne_dead hb) hp1 trivial (by rw [setRow_size]; exact hr.size) (fun k hk => setRow_ne w r k _ hk)
        have hnewR := hdead'.new hnew
        have hsn : s1.next = s.next := hp1.next
        have hal : (appL (cc.take (len * i2.size)) news).length = (len + n) * i2.size := by
          rw [appL_eq, List.length_append, List.length_take, hnl, e1]
          have : len * i2.size ≤ cc.length := g7
          omega
        have hrl : rc.toList.length = rc.size := Array.length_toList
        have hns : (rc.toList.take (len * i2.size) ++ nv ++ rc.toList.drop (len * i2.size + nv.length)).toArray.size = rc.size := by
          simp only [List.size_toArray, List.length_append, List.length_take, List.length_drop, hrl]
          omega
        have hX : BR P base (σ.put s1.next (r, cap + x - (len + n))) r (cap + x - (len + n)) (w.setRow r (rc.toList.take (len * i2.size) ++ nv ++ rc.toList.drop (len * i2.size + nv.length)).toArray).heap (s'.blk s1.next) := by
          rw [hnew.blk, if_pos rfl]
          refine BR.mk ⟨_, fz, setRow_heap w r rc _ e fz m1, ?_, ?_, .inl rfl, fun _ => ⟨m6, by rw [hns]; exact m7⟩⟩
          · rw [hal, e1]
            have : (rc.toList.take (len * i2.size) ++ nv ++ rc.toList.drop (len * i2.size + nv.length)).toArray.toList.take (len * i2.size + n * i2.size) = (rc.toList.take cc.length).take (len * i2.size) ++ nv := by
              have e3 : (rc.toList.take cc.length).take (len * i2.size) = rc.toList.take (len * i2.size) := by
                rw [List.take_take, Nat.min_eq_left g7]
              rw [e3]
              show (rc.toList.take (len * i2.size) ++ nv ++ rc.toList.drop (len * i2.size + nv.length)).take (len * i2.size + n * i2.size) = _
              exact List.take_left' (by rw [List.length_append, List.length_take, hrl]; omega)
            rw [this, appL_eq]
            exact F2.append ((m2.take _).mono fun _ _ => CR.mono (Emb.le_put hdead.open)) (F2_cr (VRs.mono (Emb.le_put hdead.open) f1))
          · rw [hns, hal, hcz, m3, ← Nat.add_mul]
            congr 1
            omega
        have hlay := hnewR.lay (b := s1.next) (w' := w.setRow r (rc.toList.take (len * i2.size) ++ nv ++ rc.toList.drop (len * i2.size + nv.length)).toArray) hdead.open (by rw [hnew.next]; omega) hX (by rw [setRow_size]; exact hr.size) (fun _ _ => rfl) (fun d x' hd' => by
          have hlt := hr.dom d r x' hd'
          rw [hnew.blk, if_neg (by omega), hp1.blk]
          by_cases hdb : d = b
          · rw [if_pos hdb]
          · rw [if_neg hdb]
            cases hdd : s.blk d with
            | dead => rfl
            | cells _ _ _ => exact absurd (hr.inj d b r _ _ hd' hσ (by rw [hdd]; exact fun e => by cases e) (ne_dead hb)) hdb
            | map _ => exact absurd (hr.inj d b r _ _ hd' hσ (by rw [hdd]; exact fun e => by cases e) (ne_dead hb)) hdb)
        refine ⟨_, _, _, run hrun, ?_, hlay, below_setRow m6, ?_⟩
        · refine ⟨Emb.le_put hdead.open, by rw [hnew.next, hsn]; omega, fun d hd' hσd => ?_, fun hs => hnew.ok (hp1.ok (ne_dead hb) hs)⟩
          refine ⟨by rw [Emb.put_ne (by omega)]; exact hσd, ?_⟩
          rw [hnew.blk, if_neg (by omega)]
          exact hbl d hσd
        · have := slice_VR (τ := σ.put s1.next (r, cap + x - (len + n))) (b := s1.next) Emb.put_self 0 (len + n) (len + n)
          have e2 : len + n + (cap + x - (len + n)) = cap + x := by omega
          rw [e2] at this
          exact this
      · -- a new row
        obtain ⟨ov, o1, o2, o3⟩ := hr.cells (o := 0) (n := len * i2.size) hσ hb (by rw [List.drop_zero]; exact g7)
        simp only [Nat.zero_add, List.drop_zero] at o1 o3
        exact grow (cap' := cap + x) (ov := ov) hdead hp1.next hbl (hp1.ok (ne_dead hb)) hnew a0 a1 f2 (f3 w.drew rfl)
          (run_firstCells_some (P := P) w.drew i2.size len ⟨r, 0, none⟩ len (cap + x) ov o2 (fun j v hj => by rw [addr_add, Nat.zero_add, cell_heap (w := w) (w' := w.drew) rfl]; exact o3 j v hj)) o1 f1
          (by rw [List.length_take]; exact Nat.min_eq_left g7) (by omega)
  · rw [hn0] at h9
    have hn : n = 0 := beqN_true hn0
    subst hn
    refine ⟨_, s, ⟨St.Up.refl _, fun σ ρ w hr hor => ?_⟩, h9⟩
    obtain ⟨w0, w1, a0, r0, a1, r1⟩ := args hor
    obtain ⟨nv, f1, f2, f3⟩ := hnews σ w w1 hr r1
    have hnv : nv = [] := by
      have := f1.length
      rw [hnl, Nat.zero_mul] at this
      exact List.length_eq_zero_iff.1 this
    subst hnv
    have r0' := r0
    cases p with
    | none =>
      simp only [VR] at r0; subst r0
      have hrun := append_room (P := P) (w := w) (ty := o.type) hty hu1 hd hu2 hu3 hi a0 a1 f2 (f3 w rfl) (by omega : len + 0 ≤ cap) (fun bb e => by cases e) (fun _ => rfl)
      exact ⟨σ, _, w, run hrun, Ext.refl σ s, hr, Below.refl _ _, r0'⟩
    | some p =>
      simp only [VR] at r0
      obtain ⟨r, x, hσ, hsp, rfl⟩ := r0
      have hrun := append_room (P := P) (w := w) (ty := o.type) hty hu1 hd hu2 hu3 hi a0 a1 f2 (f3 w rfl) (by omega : len + 0 ≤ cap + x) (fun bb e => by cases e; rfl) (fun e => by cases e)
      exact ⟨σ, _, w, run hrun, Ext.refl σ s, hr, Below.refl _ _, r0'⟩
end
end Go.Ev
