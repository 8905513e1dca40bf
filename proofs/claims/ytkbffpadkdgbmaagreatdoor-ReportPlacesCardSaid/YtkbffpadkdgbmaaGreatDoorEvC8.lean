import Derived.Test.YtkbffpadkdgbmaaGreatDoorEvC7
import Derived.Lib.Builder
import Derived.Lib.UnsafeStr
import Derived.Laws.BytesString
/- Conversions. -/
namespace Go.Ev
open Go Go.RowKit Go.Lib
set_option linter.unusedVariables false
set_option linter.unusedSimpArgs false
set_option linter.deprecated false

section
variable {P : Program} {base : Nat} {σ : Emb} {s t : St} {w : World} {a : Fr} {o : Oper} {v : Value}

theorem liesAt_whole {e : TypeId} {z off n count : Nat} (hz : P.cellsOf e = z) (h0 : z ≠ 0) (h1 : off % z = 0) (h2 : off / z + n ≤ count) : liesAt P P.depth e count off e n = true := by
  have hd : P.depth = (2 * (P.types.size + Made.depth) + 1) + 1 := rfl
  rw [hd]
  simp only [liesAt, Bool.or_eq_true]
  left
  rw [hd]
  simp [rowAt, hz, h0, h1, h2, sameLayout]
theorem whole_of {z off n len : Nat} (h : whole z off n len = true) : z ≠ 0 ∧ off % z = 0 ∧ off / z + n ≤ len / z := by
  obtain ⟨h1, h2⟩ := cond_of' h
  obtain ⟨h3, h4⟩ := cond_of h2
  refine ⟨fun e => ?_, beqN_true h3, Nat.le_of_ble_eq_true h4⟩
  rw [e] at h1
  exact absurd h1 (by decide)
theorem bytesK_of : ∀ {c : List Value} {k : List UInt8 → Bool}, bytesK c k = true → ∃ ns : List Nat, c = ns.map (fun n : Nat => Value.int .u8 (n : Int)) ∧ k (ns.map UInt8.ofNat) = true
  | [], _, h => ⟨[], rfl, h⟩
  | v :: c, k, h => by
    obtain ⟨t, n, rfl, h1⟩ := intK_of h
    obtain ⟨h2, h3⟩ := cond_of h1
    have := eqKind_of h2; subst this
    obtain ⟨m, rfl, h4⟩ := natK_of h3
    obtain ⟨ns, rfl, h5⟩ := bytesK_of (c := c) h4
    exact ⟨m :: ns, rfl, h5⟩
theorem ints_F2 {ns : List Nat} {l' : List Value} (h : F2 (VR σ) (ns.map (fun n : Nat => Value.int .u8 (n : Int))) l') : l' = (ns.map Int.ofNat).map (Value.int .u8) := by
  induction ns generalizing l' with
  | nil => exact h
  | cons n ns ih =>
    obtain ⟨v, t, rfl, h1, h2⟩ := h
    simp only [VR] at h1
    rw [h1, ih h2]
    rfl
theorem pushes (ns : List Nat) : ∀ b : ByteArray, ((ns.map Int.ofNat).foldl (fun (r : ByteArray) n => r.push (UInt8.ofNat n.toNat)) b) = ⟨b.data ++ (ns.map UInt8.ofNat).toArray⟩ := by
  induction ns with
  | nil => intro b; simp
  | cons n ns ih =>
    intro b
    simp only [List.map_cons, List.foldl_cons, ih]
    apply ByteArray.ext
    apply Array.ext'
    simp [ByteArray.push]
theorem convKind_of (d d' : TypeDesc) : (∃ e, convKind d d' = .toBytes e ∧ d = .string ∧ d' = .slice e) ∨ (∃ e, convKind d d' = .toString e ∧ d = .slice e ∧ d' = .string) ∨
    (∃ f e, convKind d d' = .same e ∧ d = .slice f ∧ d' = .slice e) ∨ (∃ e, convKind d d' = .toAny e ∧ d = .pointer e ∧ d' = .unsafePointer) ∨
    (∃ e, convKind d d' = .fromAny e ∧ d = .unsafePointer ∧ d' = .pointer e) ∨ convKind d d' = .plain := by
  cases d <;> cases d' <;> simp [convKind]
theorem hereK_of {p : Addr} {k : List Value → TypeId → Nat → Bool} (h : hereK s p k = true) : ∃ b f c e q, p = ⟨b, f, none⟩ ∧ s.blk b = .cells c e q ∧ q.own ∧ k c e f = true := by
  obtain ⟨b, f, rfl, h1⟩ := addrK_of h
  obtain ⟨c, e, q, hb, h2⟩ := blkK_of h1
  obtain ⟨hq, h3⟩ := ownK_of h2
  exact ⟨b, f, c, e, q, rfl, hb, hq, h3⟩
theorem HR.shape (h : HR P base σ t w) {b r x : Nat} {c : List Value} {e : TypeId} {q : Kd} (hσ : σ b = some (r, x)) (hb : t.blk b = .cells c e q) (hq : q.own) : w.shape? r = some (e, c.length + x * P.cellsOf e) := by
  have := h.blk b r x hσ
  rw [hb] at this
  obtain ⟨rc, fz, h1, _, h3, _⟩ := this.own hq
  simp [World.shape?, h1, h3]
/-- A row's bytes are marked behind its end. -/
theorem HR.freeze (h : HR P base σ t w) {b r x n : Nat} {c : List Value} {e : TypeId} {q : Kd} (hσ : σ b = some (r, x)) (hb : t.blk b = .cells c e q) (hq : q.own) (hn : n = c.length + x * P.cellsOf e) :
    HR P base σ t (w.freeze ⟨r, n, none⟩ 1) ∧ Below base w (w.freeze ⟨r, n, none⟩ 1) := by
  have hB := h.blk b r x hσ
  rw [hb] at hB
  obtain ⟨rc, fz, h1, h2, h3, h4, h5⟩ := hB.own hq
  have hne : ∀ k, k ≠ r → (w.freeze ⟨r, n, none⟩ 1).heap[k]? = w.heap[k]? := fun k hk => by
    simp only [World.freeze, Nat.one_ne_zero, if_false, Array.getElem?_modify]
    rw [if_neg (Ne.symm hk)]
  have hsz : (w.freeze ⟨r, n, none⟩ 1).heap.size = w.heap.size := by simp [World.freeze]
  have hr : ∃ fz', (w.freeze ⟨r, n, none⟩ 1).heap[r]? = some (.cells rc e fz') ∧ thawed fz' rc.size := by
    obtain ⟨lo, hi⟩ := fz
    refine ⟨if lo == hi then (n, n + 1) else (min lo n, max hi (n + 1)), ?_, ?_⟩
    · simp only [World.freeze, Nat.one_ne_zero, if_false, Array.getElem?_modify, if_true, h1, Option.map_some]
    · have := (h5 hq).2
      simp only [thawed] at this ⊢
      by_cases hlh : lo = hi
      · simp [hlh]; omega
      · simp [hlh]; omega
  obtain ⟨fz', f1, f2⟩ := hr
  have hself : t.Put b (.cells c e q) t := ⟨rfl, fun d => by
    by_cases hd : d = b
    · subst hd; simp [hb]
    · simp [hd]⟩
  refine ⟨h.put hσ (by rw [hb]; exact fun e => by cases e) hself (BR.mk ⟨rc, fz', f1, h2, h3, h4, fun _ => ⟨(h5 hq).1, f2⟩⟩) (by rw [hsz]; exact h.size) hne, ?_⟩
  exact ⟨by simp [World.freeze], by simp [World.freeze], by simp [World.freeze], Nat.le_of_eq hsz.symm, fun k hk => hne k (by have := (h5 hq).1; omega)⟩

theorem convert_of {k : K} {src dst : TypeId} {x : Operand} (hs : s.Ok) (ho : o.op = .convert src dst x) (h : evConvert P src dst x o a s k = true) : ∃ v s', StepQ P base o a s v s' ∧ k v a s' = true := by
  obtain ⟨d, hd, h1⟩ := underK_of h
  obtain ⟨d', hd', h2⟩ := underK_of h1
  have run : ∀ {ρ w v w'}, (convert src dst (ρ x)).run P w = .ok v w' → Gives ((execOp ρ o).run P w) v w' := fun h => .inl (by simp [execOp, ho, h])
  have opr : ∀ {σ ρ}, OpsRel σ a ρ o.op → VR σ (ex a x) (ρ x) := fun hr => hr x (by simp [ho, Op.operands])
  have hreads : reads o.op = true := by simp [ho, reads]
  rcases convKind_of d d' with ⟨e, hk, rfl, rfl⟩ | ⟨e, hk, rfl, rfl⟩ | ⟨f, e, hk, rfl, rfl⟩ | ⟨e, hk, rfl, rfl⟩ | ⟨e, hk, rfl, rfl⟩ | hk
  all_goals rw [hk] at h2
  · obtain ⟨de, hde, h3⟩ := underK_of h2
    obtain ⟨g1, h4⟩ := cond_of h3
    have := isByte_of g1; subst this
    obtain ⟨i, hi, h5⟩ := sizeK_of h4
    obtain ⟨g2, h6⟩ := cond_of h5
    obtain ⟨b, hb, h7⟩ := strK_of h6
    obtain ⟨s', hn, h8⟩ := newK_of h7
    have hsz : P.cellsOf e = 1 := by rw [cellsOf_eq hi]; exact beqN_true g2
    refine ⟨_, s', .inl (StepN.row hn fun σ ρ w hr => ?_), h8⟩
    have hx := opr hr
    rw [hb] at hx; simp only [VR] at hx
    let cap := grownCap w b.size 0 e
    have hcap : b.size ≤ cap := grownCap_ge w b.size 0 e
    let rc : Array Value := (b.data.map fun c => Value.int .u8 c.toNat) ++ Array.replicate (cap - b.size) (.int .u8 0)
    have hbs : b.data.size = b.size := rfl
    have hrc : rc.size = cap := by simp only [rc, Array.size_append, Array.size_map, Array.size_replicate]; omega
    have hl : lenL b.data.toList = b.size := by rw [lenL_eq, Array.length_toList]; rfl
    have hm : (mapL byteV b.data.toList).length = b.size := by rw [mapL_eq, List.length_map, Array.length_toList]; rfl
    refine ⟨.slice (some ⟨w.heap.size, 0, none⟩) b.size cap, w.drew, rc, cap - b.size, (cap, cap + 1), run ?_, rfl, rfl, rfl, rfl, ?_, ?_, .inl rfl, .inr (by rw [hrc]; exact Nat.le_refl _), fun τ _ hτ => ?_⟩
    · rw [hx]
      have e1 : (Conv.stringToBytes e b).run P w = .ok (.slice (some ⟨w.heap.size, 0, none⟩) b.size cap) (w.drew.alloc (.cells rc e (cap, cap + 1))) := by
        have hq : (Question.appendCap b.size 0 e).forced = false := rfl
        have hsh : (w.drew.alloc (.cells rc e)).shape? w.heap.size = some (e, cap) := by
          have : (w.drew.alloc (.cells rc e)).heap[w.heap.size]? = some (.cells rc e) := alloc_self w.drew _
          simp only [World.shape?, this, hrc]
        have hfr : (w.drew.alloc (.cells rc e)).freeze ⟨w.heap.size, cap, none⟩ 1 = w.drew.alloc (.cells rc e (cap, cap + 1)) := by
          have hh : (w.heap.push (.cells rc e)).modify w.heap.size (fun
              | .cells c elem (lo, hi) => .cells c elem (if lo == hi then (cap, cap + 1) else (min lo cap, max hi (cap + 1)))
              | o => o) = w.heap.push (.cells rc e (cap, cap + 1)) := by
            apply Array.ext_getElem?
            intro k
            rw [Array.getElem?_modify]
            by_cases hk : w.heap.size = k
            · subst hk; simp
            · rw [if_neg hk, Array.getElem?_push, Array.getElem?_push, if_neg (Ne.symm hk), if_neg (Ne.symm hk)]
          exact congrArg (fun h => ({ w.drew with heap := h } : World)) hh
        unfold Conv.stringToBytes
        rw [Sem.run_bind, run_choose_drew, if_neg (by rw [hq]; decide)]
        simp only [Result.andThen_ok, Sem.run_bind]
        have hc' : (Question.appendCap b.size 0 e).cut (w.tape w.drawn (.appendCap b.size 0 e)) = cap := rfl
        rw [hc', run_newRow]
        simp only [Result.andThen_ok, markStringish, Sem.run_bind]
        have e2 : (shape w.heap.size).run P (w.drew.alloc (.cells rc e)) = .ok (some (e, cap)) (w.drew.alloc (.cells rc e)) := by rw [run_shape, hsh]
        show (((shape w.heap.size).run P (w.drew.alloc (.cells rc e))).andThen _).andThen _ = _
        rw [e2]
        simp only [Result.andThen_ok]
        show ((freeze ⟨w.heap.size, cap, none⟩ 1).run P (w.drew.alloc (.cells rc e))).andThen _ = _
        rw [run_freeze, hfr]
        rfl
      simp [convert, run_underlying hd, run_underlying hd', run_underlying hde, e1]
    · rw [hm]
      have : rc.toList.take b.size = b.data.toList.map fun c => Value.int .u8 c.toNat := by
        simp only [rc, Array.toList_append, Array.toList_map]
        exact List.take_left' (by simp [hbs])
      rw [this, mapL_eq]
      exact F2.same fun c _ => fun _ => by simp only [byteV, VR]; rfl
    · rw [hm, hrc, hsz]; omega
    · rw [hl]
      simp only [VR]
      refine ⟨_, _, hτ, by trivial, ?_⟩
      congr 1
      omega
  · obtain ⟨de, hde, h3⟩ := underK_of h2
    obtain ⟨g1, h4⟩ := cond_of h3
    have := isByte_of g1; subst this
    obtain ⟨p, n, c, hp, h5⟩ := sliceK_of h4
    cases p with
    | none =>
      refine ⟨_, s, StepP.q fun σ t' ρ w _ hr => ⟨.string .empty, run ?_, by simp only [VR]; rfl⟩, h5⟩
      have hx := opr hr
      rw [hp] at hx; simp only [VR] at hx
      simp [hx, convert, run_underlying hd, run_underlying hd', run_underlying hde, Conv.bytesToString]
    | some p =>
      obtain ⟨b, f, cc, e', q, rfl, hb, hn, hok, h6⟩ := readK_of h5
      obtain ⟨ns, hns, h7⟩ := bytesK_of h6
      refine ⟨_, s, .inr ⟨hreads, rfl, fun σ t' ρ w hrr hr hag _ => ?_⟩, h7⟩
      have hx := opr hr
      rw [hp] at hx; simp only [VR] at hx
      obtain ⟨r, y, hσ, _, hx⟩ := hx
      have hb' : t'.blk b = .cells cc e' q := by rw [hag b (hs.lt (by rw [hb]; exact fun e => by cases e))]; exact hb
      obtain ⟨l', h8, h9, h10⟩ := hrr.vals hσ hb' hn hok
      rw [hns] at h8
      have hl' := ints_F2 h8
      have hrun := run_cells (P := P) h9 h10
      rw [hl'] at hrun
      have := run_bytesToString (P := P) w ⟨r, f, none⟩ n (c + y) (ns.map Int.ofNat) hrun
      rw [pushes] at this
      refine ⟨_, w, run (v := .string ⟨ByteArray.empty.data ++ (ns.map UInt8.ofNat).toArray⟩) ?_, ?_, hrr, Below.refl _ _⟩
      · rw [hx]
        simp [convert, run_underlying hd, run_underlying hd', run_underlying hde, this]
      · simp only [VR]
        congr 2
        show ByteArray.empty.data ++ (ns.map UInt8.ofNat).toArray = _
        simp
  · obtain ⟨de, hde, h3⟩ := underK_of h2
    obtain ⟨g1, h4⟩ := cond_of h3
    have := isByte_of g1; subst this
    obtain ⟨g2, h5⟩ := cond_of h4
    have := beqN_true g2; subst this
    have hfe : f = e := by rw [hd] at hd'; cases hd'; rfl
    subst hfe
    obtain ⟨p, n, c, hp, h6⟩ := sliceK_of h5
    obtain ⟨p, rfl, h7⟩ := optK_of h6
    obtain ⟨b, f', cc, e', q, rfl, hb, hq, h8⟩ := hereK_of h7
    refine ⟨_, s, .inr ⟨hreads, rfl, fun σ t' ρ w hrr hr hag _ => ?_⟩, h8⟩
    have hx := opr hr
    rw [hp] at hx; simp only [VR] at hx
    obtain ⟨r, y, hσ, _, hx⟩ := hx
    have hb' : t'.blk b = .cells cc e' q := by rw [hag b (hs.lt (by rw [hb]; exact fun e => by cases e))]; exact hb
    obtain ⟨f1, f2⟩ := hrr.freeze hσ hb' hq rfl
    refine ⟨.slice (some ⟨r, f', none⟩) n (c + y), _, run ?_, slice_VR hσ _ _ _, f1, f2⟩
    rw [hx]
    simp [convert, run_underlying hd, run_underlying hd', run_underlying hde, markStringish, hrr.shape hσ hb' hq]
  · obtain ⟨p, hp, h3⟩ := ptrK_of h2
    obtain ⟨p, rfl, h4⟩ := optK_of h3
    obtain ⟨i, hi, h5⟩ := sizeK_of h4
    obtain ⟨g1, h6⟩ := cond_of' h5
    obtain ⟨b, f, c, e', q, rfl, hb, hq, h7⟩ := hereK_of h6
    obtain ⟨g2, h8⟩ := cond_of h7
    refine ⟨_, s, .inr ⟨hreads, rfl, fun σ t' ρ w hrr hr hag _ => ?_⟩, h8⟩
    have hx := opr hr
    rw [hp] at hx; simp only [VR] at hx
    obtain ⟨r, y, hσ, _, hx⟩ := hx
    have hb' : t'.blk b = .cells c e' q := by rw [hag b (hs.lt (by rw [hb]; exact fun e => by cases e))]; exact hb
    refine ⟨.pointer (some ⟨r, f, none⟩), w, run ?_, by simp only [VR]; exact ⟨r, y, hσ, by trivial, rfl⟩, hrr, Below.refl _ _⟩
    rw [hx]
    have hlt : f < c.length := by rw [lenL_eq] at g2; simpa [Nat.blt_eq] using g2
    exact run_to_unsafe w ⟨r, f, none⟩ hd hd' hi (fun e => by rw [e] at g1; exact absurd g1 (by decide)) (hrr.shape hσ hb' hq) (by show f < _; omega)
  · obtain ⟨p, hp, h3⟩ := ptrK_of h2
    obtain ⟨p, rfl, h4⟩ := optK_of h3
    obtain ⟨i, hi, h5⟩ := sizeK_of h4
    obtain ⟨b, f, c, e', q, rfl, hb, hq, h6⟩ := hereK_of h5
    obtain ⟨g1, h7⟩ := cond_of h6
    obtain ⟨g2, h8⟩ := cond_of h7
    have := beqN_true g1; subst this
    refine ⟨_, s, .inr ⟨hreads, rfl, fun σ t' ρ w hrr hr hag _ => ?_⟩, h8⟩
    have hx := opr hr
    rw [hp] at hx; simp only [VR] at hx
    obtain ⟨r, y, hσ, _, hx⟩ := hx
    have hb' : t'.blk b = .cells c e q := by rw [hag b (hs.lt (by rw [hb]; exact fun e => by cases e))]; exact hb
    refine ⟨.pointer (some ⟨r, f, none⟩), w, run ?_, by simp only [VR]; exact ⟨r, y, hσ, by trivial, rfl⟩, hrr, Below.refl _ _⟩
    rw [hx]
    obtain ⟨w1, w2, w3⟩ := whole_of g2
    rw [lenL_eq] at w3
    have hcz : P.cellsOf e = i.size := cellsOf_eq hi
    refine run_from_unsafe w ⟨r, f, none⟩ hd hd' hi (hrr.shape hσ hb' hq) (liesAt_whole hcz w1 w2 (Nat.le_trans w3 ?_))
    rw [hcz]
    exact Nat.div_le_div_right (Nat.le_add_right _ _)
  · exact plain_of (by rw [ho]; intro _ _ e; cases e) h2
end
end Go.Ev
