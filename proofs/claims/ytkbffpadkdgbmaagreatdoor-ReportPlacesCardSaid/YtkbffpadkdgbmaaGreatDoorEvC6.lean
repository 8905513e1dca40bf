import Derived.Test.YtkbffpadkdgbmaaGreatDoorEvC5
import Derived.Laws.MakeOwn
/- Operations: slices that are made and cut; maps that are looked into; conversions; lengths. -/
namespace Go.Ev
open Go Go.RowKit
set_option linter.unusedVariables false
set_option linter.unusedSimpArgs false
set_option linter.deprecated false

section
variable {P : Program} {base : Nat} {σ : Emb} {s t : St} {w : World} {a : Fr} {o : Oper} {v : Value}

theorem wrap_small {m : Nat} (h : m < 9223372036854775808) : IntKind.i64.wrap (m : Int) = m :=
  wrap_in (k := .i64) (n := Int.ofNat m) (by show Nat.blt m 9223372036854775808 = true; rw [Nat.blt_eq]; exact h)
theorem makeSlice_of {k : K} {ty : TypeId} {l c : Operand} (ho : o.op = .makeSlice ty l c) (h : evMakeSlice P ty l c a s k = true) : ∃ v s', StepQ P base o a s v s' ∧ k v a s' = true := by
  obtain ⟨d, hd, h1⟩ := underK_of h
  obtain ⟨e, rfl, h2⟩ := sliceTK_of h1
  obtain ⟨u1, m, hl, h3⟩ := intNatK_of h2
  obtain ⟨u2, n, hc, h4⟩ := intNatK_of h3
  obtain ⟨g1, h5⟩ := cond_of h4
  obtain ⟨g2, h6⟩ := cond_of h5
  obtain ⟨i, hi, h7⟩ := infoK_of h6
  obtain ⟨g3, h8⟩ := cond_of h7
  obtain ⟨i', z, hi', hz, hf, h9⟩ := zeroK_of h8
  obtain ⟨g4, h10⟩ := cond_of h9
  obtain ⟨s', hn, h11⟩ := newK_of h10
  have hii : i' = i := by rw [hi] at hi'; cases hi'; rfl
  subst hii
  have b1 : n ≤ 65536 := Nat.le_of_ble_eq_true g1
  have b2 : m ≤ n := Nat.le_of_ble_eq_true g2
  have b3 : i'.bytes ≤ 65536 := Nat.le_of_ble_eq_true g3
  have hzs : z.cells.size = i'.size := by have := beqN_true g4; rw [lenL_eq, cellsL_eq] at this; simpa using this
  refine ⟨_, s', .inl (StepN.row hn fun σ ρ w hr => ⟨.slice (some ⟨w.heap.size, 0, none⟩) m n, w, madeCells z.cells (n * i'.size), 0, (0, 0),
    .inl ?_, rfl, rfl, rfl, rfl, ?_, ?_, .inr rfl, .inl rfl, fun τ _ hτ => slice_VR hτ 0 m n⟩), h11⟩
  · have hl' := hr l (by simp [ho, Op.operands])
    have hc' := hr c (by simp [ho, Op.operands])
    rw [hl] at hl'; rw [hc] at hc'
    simp only [VR] at hl' hc'
    have hb : (i'.bytes : Int) * (n : Int) ≤ 281474976710656 := by
      have : i'.bytes * n ≤ 65536 * 65536 := Nat.mul_le_mul b3 b1
      have h : ((i'.bytes * n : Nat) : Int) ≤ 281474976710656 := by omega
      rwa [Int.natCast_mul] at h
    have hrun := run_make (P := P) w ty e i' z hd hi hz u1 u2 m n (by omega) (by omega) hb (by omega)
    simp only [Int.toNat_natCast] at hrun
    simp [execOp, ho, hl', hc', hrun]
  · have e : (madeCells z.cells (n * i'.size)).toList = (List.replicate n z.cells.toList).flatten := by
      rw [← hzs]; exact cells_repl z.cells n
    rw [e, repL_eq, cellsL_eq]
    exact F2_take (F2_cr (rep_F2 hf n))
  · have e : (madeCells z.cells (n * i'.size)).toList = (List.replicate n z.cells.toList).flatten := by
      rw [← hzs]; exact cells_repl z.cells n
    have e := congrArg List.length e
    rw [repL_eq, cellsL_eq, ← e]
    simp

/-- An optional bound. -/
def OV (a : Fr) (x : Option Operand) (d l : Nat) : Prop := (x = none ∧ l = d) ∨ ∃ y t, x = some y ∧ ex a y = .int t (l : Int)
theorem optV_of {x : Option Operand} {d : Nat} {k : Nat → Bool} (h : intNatK (optV x (.int .i64 (.ofNat d)) a) k = true) : ∃ l, OV a x d l ∧ k l = true := by
  obtain ⟨t, l, hl, h1⟩ := intNatK_of h
  cases x with
  | none =>
    have e : Value.int .i64 (.ofNat d) = .int t (l : Int) := hl
    simp only [Int.ofNat_eq_natCast, Value.int.injEq] at e
    have : l = d := by omega
    exact ⟨l, .inl ⟨rfl, this⟩, h1⟩
  | some y => exact ⟨l, .inr ⟨y, t, rfl, hl⟩, h1⟩
theorem loHi_of {lo hi : Option Operand} {n m : Nat} {k : Nat → Nat → Bool} (h : loHi lo hi n m a k = true) : ∃ l r, OV a lo 0 l ∧ OV a hi n r ∧ r ≤ m ∧ l ≤ r ∧ k l r = true := by
  obtain ⟨l, hl, h1⟩ := optV_of h
  obtain ⟨r, hr, h2⟩ := optV_of h1
  obtain ⟨g1, h3⟩ := cond_of h2
  obtain ⟨g2, h4⟩ := cond_of h3
  exact ⟨l, r, hl, hr, Nat.le_of_ble_eq_true g1, Nat.le_of_ble_eq_true g2, h4⟩
theorem run_bound {x : Value} {t : IntKind} {l y : Nat} {code : BoundsCode} (hx : x = .int t (l : Int)) (h : l ≤ y) : (Instr.sliceBound x y code).run P w = .ok l w := by
  subst hx
  have h1 : (0 : Int) ≤ l := by omega
  simp [Instr.sliceBound, asIntOf, h]
theorem run_bounds {lo hi : Option Operand} {ρ : Operand → Value} {b : Bool} {n m l r : Nat} (hl : OV a lo 0 l) (hr : OV a hi n r) (h1 : r ≤ m) (h2 : l ≤ r)
    (hρ : ∀ x, (lo = some x ∨ hi = some x) → VR σ (ex a x) (ρ x)) : (Instr.sliceBounds b n m (lo.map ρ) (hi.map ρ) none).run P w = .ok (l, r, m) w := by
  have hi' : (∃ x t, hi.map ρ = some x ∧ x = .int t (r : Int)) ∨ (hi.map ρ = none ∧ r = n) := by
    rcases hr with ⟨rfl, e⟩ | ⟨y, t, rfl, e⟩
    · exact .inr ⟨rfl, e⟩
    · have := hρ y (.inr rfl)
      rw [e] at this; simp only [VR] at this
      exact .inl ⟨_, t, rfl, this⟩
  have lo' : (∃ x t, lo.map ρ = some x ∧ x = .int t (l : Int)) ∨ (lo.map ρ = none ∧ l = 0) := by
    rcases hl with ⟨rfl, e⟩ | ⟨y, t, rfl, e⟩
    · exact .inr ⟨rfl, e⟩
    · have := hρ y (.inl rfl)
      rw [e] at this; simp only [VR] at this
      exact .inl ⟨_, t, rfl, this⟩
  rcases hi' with ⟨x, t, e1, e2⟩ | ⟨e1, rfl⟩ <;> rcases lo' with ⟨y, u, e3, e4⟩ | ⟨e3, rfl⟩ <;> rw [e1, e3]
  · simp [Instr.sliceBounds, run_bound e2 h1, run_bound e4 h2]
  · simp [Instr.sliceBounds, run_bound e2 h1]
  · simp [Instr.sliceBounds, run_bound e4 h2]
  · simp [Instr.sliceBounds]
theorem moved_eq (p : Option Addr) (d : Nat) : moved p d = p.map fun a => ⟨a.block, a.off + d, none⟩ := by cases p <;> rfl
theorem endOk_of {l c : Nat} (h : endOk l c = true) : l = 0 ∨ l < c := by
  unfold endOk at h
  cases hl : Nat.beq l 0
  · rw [hl] at h; exact .inr (by simpa [Nat.blt_eq] using h)
  · exact .inl (beqN_true hl)
theorem sliceE_of {v : Value} {k : Option Addr → Nat → Nat → Bool} {l : List UInt8 → Bool} {z : Unit → Bool} (h : sliceE v k l z = true) :
    (∃ p n c, v = .slice p n c ∧ k p n c = true) ∨ (∃ b, v = .string b ∧ l b.data.toList = true) ∨ z () = true := by
  cases v <;> first | exact .inl ⟨_, _, _, rfl, h⟩ | exact .inr (.inl ⟨_, rfl, h⟩) | exact .inr (.inr h)
theorem add_if {r f l z c x : Nat} (hl : l = 0 ∨ l < c) : (if c + x = l then (some ⟨r, f, none⟩ : Option Addr) else (some ⟨r, f, none⟩ : Option Addr).map (·.add (l * z))) = some ⟨r, f + l * z, none⟩ := by
  by_cases h : c + x = l
  · rw [if_pos h]
    rcases hl with rfl | hl
    · simp
    · omega
  · rw [if_neg h, Option.map_some, addr_add]
theorem slice_of {k : K} {ty : TypeId} {x : Operand} {lo hi mx : Option Operand} (hs : s.Ok) (ho : o.op = .slice ty x lo hi mx) (h : evSlice P ty x lo hi mx o a s k = true) : ∃ v s', StepQ P base o a s v s' ∧ k v a s' = true := by
  obtain ⟨rfl, h1⟩ := noneK_of h
  obtain ⟨d, hd, h2⟩ := underK_of h1
  have opr : ∀ {σ ρ}, OpsRel σ a ρ o.op → VR σ (ex a x) (ρ x) ∧ ∀ y, (lo = some y ∨ hi = some y) → VR σ (ex a y) (ρ y) := fun hr =>
    ⟨hr x (by simp [ho, Op.operands]), fun y hy => hr y (by rcases hy with rfl | rfl <;> simp [ho, Op.operands])⟩
  rcases sliceE_of h2 with ⟨p, n, c, hx, h3⟩ | ⟨b, hx, h3⟩ | h3
  · obtain ⟨e, rfl, h4⟩ := sliceTK_of h3
    obtain ⟨l, r, hl, hr', g1, g2, h5⟩ := loHi_of h4
    obtain ⟨g3, h6⟩ := cond_of h5
    obtain ⟨i, hi', h7⟩ := sizeK_of h6
    refine ⟨_, s, StepP.q fun σ t' ρ w _ hr => ?_, h7⟩
    obtain ⟨hx', hlh⟩ := opr hr
    rw [hx] at hx'
    cases p with
    | none =>
      simp only [VR] at hx'
      refine ⟨.slice none (r - l) (c - l), .inl ?_, by simp only [moved, VR]; rfl⟩
      have hb := run_bounds (P := P) (w := w) (b := true) hl hr' g1 g2 hlh
      simp [execOp, ho, hx', Instr.sliceAt, Instr.slice, run_underlying hd, hb, run_sizeOf hi']
    | some q =>
      simp only [VR] at hx'
      obtain ⟨rr, y, hσ, hsp, hx'⟩ := hx'
      refine ⟨.slice (some ⟨rr, q.off + l * i.size, none⟩) (r - l) (c - l + y), .inl ?_, ?_⟩
      · have hb := run_bounds (P := P) (w := w) (b := true) (m := c + y) hl hr' (by omega) g2 hlh
        have e := add_if (r := rr) (f := q.off) (z := i.size) (x := y) (endOk_of g3)
        have e2 : c + y - l = c - l + y := by omega
        simp [execOp, ho, hx', Instr.sliceAt, Instr.slice, run_underlying hd, hb, run_sizeOf hi']
        simp at e
        rw [e, e2]
        exact ⟨rfl, rfl⟩
      · rw [moved_eq]
        simp only [Option.map_some, VR]
        exact ⟨rr, y, hσ, by trivial, rfl⟩
  · obtain ⟨g0, h4⟩ := cond_of h3
    have := isStr_of g0; subst this
    obtain ⟨l, r, hl, hr', g1, g2, h5⟩ := loHi_of h4
    obtain ⟨g3, h6⟩ := takeK_of h5
    rw [dropL_eq] at h6
    refine ⟨_, s, StepP.q fun σ t' ρ w _ hr => ?_, h6⟩
    obtain ⟨hx', hlh⟩ := opr hr
    rw [hx] at hx'; simp only [VR] at hx'
    have hlen : lenL b.data.toList = b.size := by rw [lenL_eq, Array.length_toList]; rfl
    rw [hlen] at hr' g1
    refine ⟨.string (b.extract l r), .inl ?_, ?_⟩
    · have hb := run_bounds (P := P) (w := w) (b := false) hl hr' g1 g2 hlh
      simp [execOp, ho, hx', Instr.sliceAt, Instr.slice, run_underlying hd, hb]
    · simp only [VR]
      congr 1
      apply ByteArray.ext
      apply Array.ext'
      rw [ByteArray.data_extract, Array.toList_extract, List.extract_eq_drop_take]
      rfl
  · obtain ⟨p, hx, h4⟩ := ptrK_of h3
    obtain ⟨p, rfl, h5⟩ := optK_of h4
    obtain ⟨b, f, rfl, h6⟩ := addrK_of h5
    obtain ⟨n, e, rfl, h7⟩ := arrTK_of h6
    obtain ⟨l, r, hl, hr', g1, g2, h8⟩ := loHi_of h7
    obtain ⟨g3, h9⟩ := cond_of h8
    obtain ⟨c, e', q, hb, h10⟩ := blkK_of h9
    obtain ⟨rfl, h11⟩ := exactK_of h10
    obtain ⟨i, hi', h12⟩ := sizeK_of h11
    refine ⟨_, s, .inr ⟨by simp [ho, reads], rfl, fun σ t' ρ w hrr hr hag _ => ?_⟩, h12⟩
    obtain ⟨hx', hlh⟩ := opr hr
    rw [hx] at hx'; simp only [VR] at hx'
    obtain ⟨rr, y, hσ, _, hx'⟩ := hx'
    have hb' : t'.blk b = .cells c e' .exact := by rw [hag b (hs.lt (by rw [hb]; exact fun e => by cases e))]; exact hb
    have hB := hrr.blk b rr y hσ
    rw [hb'] at hB
    obtain ⟨_, _, _, _, _, hxx, _⟩ := hB
    have hy : y = 0 := by rcases hxx with h | h; · cases h
                          · exact h
    subst hy
    refine ⟨.slice (some ⟨rr, f + l * i.size, none⟩) (r - l) (n - l), w, .inl ?_, slice_VR hσ _ _ _, hrr, Below.refl _ _⟩
    have hbb := run_bounds (P := P) (w := w) (b := false) hl hr' g1 g2 hlh
    have e := add_if (r := rr) (f := f) (z := i.size) (x := 0) (endOk_of g3)
    simp [execOp, ho, hx', Instr.sliceAt, Instr.sureAddr, run_underlying hd, hbb, run_sizeOf hi']
    simp at e
    split
    · rename_i hnl
      rw [if_pos hnl] at e
      exact Option.some.inj e
    · rename_i hnl
      rw [if_neg hnl] at e
      exact Option.some.inj e
end
end Go.Ev
