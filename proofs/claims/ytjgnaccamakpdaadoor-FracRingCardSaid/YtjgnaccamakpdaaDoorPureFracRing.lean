/- The pure law FracRing: sums and products may be taken in any order, and a product of a sum is the sum of products, where all of them fit.
   Conditions: none beyond the kinds of the arguments. -/
import Derived.Test.YtjgnaccamakpdaaDoorP02w
namespace Go.Proofs.YtjgnaccamakpdaaDoor.Pure
set_option linter.unusedVariables false
open Go.RowKit Go.Proofs.YtjgnaccamakpdaaDoor.X Go.Proofs.YtjgnaccamakpdaaDoorW.PrintWords Go.Proofs.YtjgnaccamakpdaaDoorW.PrintLast
theorem low_I64 (z : Int) (d : Nat) (hd : d ≠ 0) : I64 (lowZ z d).1 ∧ I64 (lowZ z d).2.1 := by
  rcases lowZ_err (z := z) (d := d) with h | h
  · obtain ⟨f1, f2, _⟩ := lowZ_fits hd h; exact ⟨f1, f2⟩
  · rw [h]; exact ⟨⟨by decide, by decide⟩, ⟨by decide, by decide⟩⟩
theorem pos_ne {x y : Int} (hx : 1 ≤ x) (hy : 1 ≤ y) : (x * y).natAbs ≠ 0 := by
  have := Int.mul_pos (show 0 < x by omega) (show 0 < y by omega)
  omega
theorem nat_pos {x y : Int} (hx : 1 ≤ x) (hy : 1 ≤ y) : (((x * y).natAbs : Nat) : Int) = x * y := by
  have := Int.mul_pos (show 0 < x by omega) (show 0 < y by omega)
  omega
/-- What is known of a fraction that an operation tells: p over q, in lowest terms, of the value z / d. -/
structure Told (r : Int × Int × Int) (z d : Int) : Prop where
  num : I64 r.1
  den : I64 r.2.1
  low : rt r.1 r.2.1
  val : r.1 * d = z * r.2.1
theorem add_told {a b c d : Int} (ha : I64 a) (hb : I64 b) (hc : I64 c) (hd : I64 d) (h : (addS a b c d).2.2 = 0) :
    Told (addS a b c d) ((nm a b).1 * (nm c d).2 + (nm c d).1 * (nm a b).2) ((nm a b).2 * (nm c d).2) := by
  obtain ⟨i1, i2, i3, _⟩ := nm_spec ha hb
  obtain ⟨i4, i5, i6, _⟩ := nm_spec hc hd
  unfold addS at h ⊢
  obtain ⟨f1, f2, f3, f4⟩ := lowZ_fits (pos_ne i3 i6) h
  rw [nat_pos i3 i6] at f4
  exact ⟨f1, f2, f3, f4⟩
theorem mul_told {a b c d : Int} (ha : I64 a) (hb : I64 b) (hc : I64 c) (hd : I64 d) (h : (mulS a b c d).2.2 = 0) :
    Told (mulS a b c d) ((nm a b).1 * (nm c d).1) ((nm a b).2 * (nm c d).2) := by
  obtain ⟨i1, i2, i3, _⟩ := nm_spec ha hb
  obtain ⟨i4, i5, i6, _⟩ := nm_spec hc hd
  unfold mulS at h ⊢
  obtain ⟨f1, f2, f3, f4⟩ := lowZ_fits (pos_ne i3 i6) h
  rw [nat_pos i3 i6] at f4
  exact ⟨f1, f2, f3, f4⟩
theorem add_any {a b c d : Int} (ha : I64 a) (hb : I64 b) (hc : I64 c) (hd : I64 d) : I64 (addS a b c d).1 ∧ I64 (addS a b c d).2.1 := by
  obtain ⟨i1, i2, i3, _⟩ := nm_spec ha hb
  obtain ⟨i4, i5, i6, _⟩ := nm_spec hc hd
  exact low_I64 _ _ (pos_ne i3 i6)
theorem mul_any {a b c d : Int} (ha : I64 a) (hb : I64 b) (hc : I64 c) (hd : I64 d) : I64 (mulS a b c d).1 ∧ I64 (mulS a b c d).2.1 := by
  obtain ⟨i1, i2, i3, _⟩ := nm_spec ha hb
  obtain ⟨i4, i5, i6, _⟩ := nm_spec hc hd
  exact low_I64 _ _ (pos_ne i3 i6)
theorem add_comm' (a b c d : Int) : addS a b c d = addS c d a b := by
  unfold addS
  rw [Int.add_comm, Int.mul_comm (nm a b).2]
theorem mul_comm' (a b c d : Int) : mulS a b c d = mulS c d a b := by
  unfold mulS
  rw [Int.mul_comm (nm a b).1, Int.mul_comm (nm a b).2]
/-- Two fractions over positive numbers, of one value, have one form. -/
theorem low_same {z z' x y x' y' : Int} (hx : 1 ≤ x) (hy : 1 ≤ y) (hx' : 1 ≤ x') (hy' : 1 ≤ y') (h : z * (x' * y') = z' * (x * y)) : lowZ z (x * y).natAbs = lowZ z' (x' * y').natAbs := by
  have p1 := pos_ne hx hy
  have p2 := pos_ne hx' hy'
  exact lowZ_eq (by omega) (by omega) (by rw [nat_pos hx hy, nat_pos hx' hy']; exact h)
theorem add_assoc' {a0 a1 b0 b1 c0 c1 : Int} (ha : I64 a0) (ha' : I64 a1) (hb : I64 b0) (hb' : I64 b1) (hc : I64 c0) (hc' : I64 c1) (h1 : (addS a0 a1 b0 b1).2.2 = 0) (h2 : (addS b0 b1 c0 c1).2.2 = 0) :
    addS (addS a0 a1 b0 b1).1 (addS a0 a1 b0 b1).2.1 c0 c1 = addS a0 a1 (addS b0 b1 c0 c1).1 (addS b0 b1 c0 c1).2.1 := by
  have t1 := add_told ha ha' hb hb' h1
  have t2 := add_told hb hb' hc hc' h2
  obtain ⟨_, _, p1, _⟩ := nm_spec ha ha'
  obtain ⟨_, _, p2, _⟩ := nm_spec hb hb'
  obtain ⟨_, _, p3, _⟩ := nm_spec hc hc'
  generalize addS a0 a1 b0 b1 = u at *
  generalize addS b0 b1 c0 c1 = v at *
  unfold addS
  rw [nm_of t1.low, nm_of t2.low]
  generalize nm a0 a1 = A at *
  generalize nm b0 b1 = B at *
  generalize nm c0 c1 = C at *
  have v1 := t1.val; have v2 := t2.val
  have u2 := t1.low.1; have w2 := t2.low.1
  refine low_same u2 p3 p1 w2 ?_
  apply Int.eq_of_mul_eq_mul_right (show B.2 ≠ 0 by omega)
  simp only
  grind
theorem mul_assoc' {a0 a1 b0 b1 c0 c1 : Int} (ha : I64 a0) (ha' : I64 a1) (hb : I64 b0) (hb' : I64 b1) (hc : I64 c0) (hc' : I64 c1) (h1 : (mulS a0 a1 b0 b1).2.2 = 0) (h2 : (mulS b0 b1 c0 c1).2.2 = 0) :
    mulS (mulS a0 a1 b0 b1).1 (mulS a0 a1 b0 b1).2.1 c0 c1 = mulS a0 a1 (mulS b0 b1 c0 c1).1 (mulS b0 b1 c0 c1).2.1 := by
  have t1 := mul_told ha ha' hb hb' h1
  have t2 := mul_told hb hb' hc hc' h2
  obtain ⟨_, _, p1, _⟩ := nm_spec ha ha'
  obtain ⟨_, _, p2, _⟩ := nm_spec hb hb'
  obtain ⟨_, _, p3, _⟩ := nm_spec hc hc'
  generalize mulS a0 a1 b0 b1 = u at *
  generalize mulS b0 b1 c0 c1 = v at *
  unfold mulS
  rw [nm_of t1.low, nm_of t2.low]
  generalize nm a0 a1 = A at *
  generalize nm b0 b1 = B at *
  generalize nm c0 c1 = C at *
  have v1 := t1.val; have v2 := t2.val
  have u2 := t1.low.1; have w2 := t2.low.1
  refine low_same u2 p3 p1 w2 ?_
  apply Int.eq_of_mul_eq_mul_right (show B.2 ≠ 0 by omega)
  simp only
  grind
theorem dist' {a0 a1 b0 b1 c0 c1 : Int} (ha : I64 a0) (ha' : I64 a1) (hb : I64 b0) (hb' : I64 b1) (hc : I64 c0) (hc' : I64 c1) (h1 : (addS a0 a1 b0 b1).2.2 = 0) (h2 : (mulS a0 a1 c0 c1).2.2 = 0) (h3 : (mulS b0 b1 c0 c1).2.2 = 0) :
    mulS (addS a0 a1 b0 b1).1 (addS a0 a1 b0 b1).2.1 c0 c1 = addS (mulS a0 a1 c0 c1).1 (mulS a0 a1 c0 c1).2.1 (mulS b0 b1 c0 c1).1 (mulS b0 b1 c0 c1).2.1 := by
  have t1 := add_told ha ha' hb hb' h1
  have t2 := mul_told ha ha' hc hc' h2
  have t3 := mul_told hb hb' hc hc' h3
  obtain ⟨_, _, p1, _⟩ := nm_spec ha ha'
  obtain ⟨_, _, p2, _⟩ := nm_spec hb hb'
  obtain ⟨_, _, p3, _⟩ := nm_spec hc hc'
  generalize addS a0 a1 b0 b1 = u at *
  generalize mulS a0 a1 c0 c1 = v at *
  generalize mulS b0 b1 c0 c1 = w at *
  unfold mulS addS
  rw [nm_of t1.low, nm_of t2.low, nm_of t3.low]
  generalize nm a0 a1 = A at *
  generalize nm b0 b1 = B at *
  generalize nm c0 c1 = C at *
  have v1 := t1.val; have v2 := t2.val; have v3 := t3.val
  have u2 := t1.low.1; have w2 := t2.low.1; have x2 := t3.low.1
  refine low_same u2 p3 w2 x2 ?_
  have hp : A.2 * B.2 * C.2 ≠ 0 := Int.mul_ne_zero (Int.mul_ne_zero (by omega) (by omega)) (by omega)
  apply Int.eq_of_mul_eq_mul_right hp
  simp only
  grind
theorem sub_back {a0 a1 b0 b1 : Int} (ha : I64 a0) (ha' : I64 a1) (hb : I64 b0) (hb' : I64 b1) (h1 : (addS a0 a1 b0 b1).2.2 = 0) (hr : rt a0 a1) : subS (addS a0 a1 b0 b1).1 (addS a0 a1 b0 b1).2.1 b0 b1 = (a0, a1, 0) := by
  have t1 := add_told ha ha' hb hb' h1
  obtain ⟨_, _, p1, _⟩ := nm_spec ha ha'
  obtain ⟨_, _, p2, _⟩ := nm_spec hb hb'
  rw [nm_of hr] at t1
  generalize addS a0 a1 b0 b1 = u at *
  unfold subS
  rw [nm_of t1.low]
  generalize nm b0 b1 = B at *
  have v1 := t1.val
  have u2 := t1.low.1
  have a2 := hr.1
  rw [← lowZ_self ha ha' hr]
  have e : a1.natAbs = (a1 * 1).natAbs := by rw [Int.mul_one]
  rw [e]
  refine low_same u2 p2 a2 (by omega) ?_
  apply Int.eq_of_mul_eq_mul_right (show B.2 ≠ 0 by omega)
  simp only at v1 ⊢
  grind
theorem sumA_ev {a0 a1 b0 b1 c0 c1 : Int} (ha : I64 a0) (ha' : I64 a1) (hb : I64 b0) (hb' : I64 b1) (hc : I64 c0) (hc' : I64 c1) : Ev (fun k => carrefourlaw02_sum_fn10.f k a0 a1 b0 b1 c0 c1) true := by
  obtain ⟨i1, i2⟩ := add_any ha ha' hb hb'
  obtain ⟨i3, i4⟩ := add_any hb hb' hc hc'
  unfold carrefourlaw02_sum_fn10.f
  refine Ev.bind (fAdd_ev ha ha' hb hb') (Ev.bind (fAdd_ev i1 i2 hc hc') (Ev.bind (fAdd_ev hb hb' hc hc') (Ev.bind (fAdd_ev ha ha' i3 i4) ?_)))
  by_cases h1 : (addS a0 a1 b0 b1).2.2 = 0
  · refine Ev.itep h1 ?_
    by_cases h2 : (addS (addS a0 a1 b0 b1).1 (addS a0 a1 b0 b1).2.1 c0 c1).2.2 = 0
    · refine Ev.itep h2 ?_
      by_cases h3 : (addS b0 b1 c0 c1).2.2 = 0
      · refine Ev.itep h3 ?_
        have e := add_assoc' ha ha' hb hb' hc hc' h1 h3
        rw [← e]
        refine Ev.itep h2 (Ev.bind (fAdd_ev hb hb' ha ha') ?_)
        rw [add_comm' b0 b1 a0 a1]
        refine Ev.itep (by simp) (Ev.itep (by simp) ?_)
        rw [h1]
        exact Ev.now _
      · exact Ev.iten h3 (Ev.now _)
    · exact Ev.iten h2 (Ev.now _)
  · exact Ev.iten h1 (Ev.now _)
theorem sumM_ev {a0 a1 b0 b1 c0 c1 : Int} (ha : I64 a0) (ha' : I64 a1) (hb : I64 b0) (hb' : I64 b1) (hc : I64 c0) (hc' : I64 c1) : Ev (fun k => carrefourlaw02_sum_fn21.f k a0 a1 b0 b1 c0 c1) true := by
  obtain ⟨i1, i2⟩ := mul_any ha ha' hb hb'
  obtain ⟨i3, i4⟩ := mul_any hb hb' hc hc'
  unfold carrefourlaw02_sum_fn21.f
  refine Ev.bind (Mul_ev' ha ha' hb hb') (Ev.bind (Mul_ev' i1 i2 hc hc') (Ev.bind (Mul_ev' hb hb' hc hc') (Ev.bind (Mul_ev' ha ha' i3 i4) ?_)))
  by_cases h1 : (mulS a0 a1 b0 b1).2.2 = 0
  · refine Ev.itep h1 ?_
    by_cases h2 : (mulS (mulS a0 a1 b0 b1).1 (mulS a0 a1 b0 b1).2.1 c0 c1).2.2 = 0
    · refine Ev.itep h2 ?_
      by_cases h3 : (mulS b0 b1 c0 c1).2.2 = 0
      · refine Ev.itep h3 ?_
        have e := mul_assoc' ha ha' hb hb' hc hc' h1 h3
        rw [← e]
        refine Ev.itep h2 (Ev.bind (Mul_ev' hb hb' ha ha') ?_)
        rw [mul_comm' b0 b1 a0 a1]
        refine Ev.itep (by simp) (Ev.itep (by simp) ?_)
        rw [h1]
        exact Ev.now _
      · exact Ev.iten h3 (Ev.now _)
    · exact Ev.iten h2 (Ev.now _)
  · exact Ev.iten h1 (Ev.now _)
theorem FracRing (a0 a1 b0 b1 c0 c1 : Int) (h0 : (Lit.int .i64 a0).wf = true) (h1 : (Lit.int .i64 a1).wf = true) (h2 : (Lit.int .i64 b0).wf = true) (h3 : (Lit.int .i64 b1).wf = true) (h4 : (Lit.int .i64 c0).wf = true) (h5 : (Lit.int .i64 c1).wf = true) : ∃ k, carrefourlaw02_FracRing.f k a0 a1 b0 b1 c0 c1 = some true := by
  have ha := i64_of_wf h0; have ha' := i64_of_wf h1; have hb := i64_of_wf h2; have hb' := i64_of_wf h3; have hc := i64_of_wf h4; have hc' := i64_of_wf h5
  refine Ev.rounds ?_
  unfold carrefourlaw02_FracRing.f
  refine Ev.bind (sumA_ev ha ha' hb hb' hc hc') (Ev.itep rfl (Ev.bind (sumM_ev ha ha' hb hb' hc hc') ?_))
  obtain ⟨i1, i2⟩ := add_any ha ha' hb hb'
  obtain ⟨i3, i4⟩ := mul_any ha ha' hc hc'
  obtain ⟨i5, i6⟩ := mul_any hb hb' hc hc'
  have j1 : Ev (fun k => carrefourlaw02_FracRing.j1 k (addS a0 a1 b0 b1).2.2 false a0 a1 b0 b1 c0 c1 (addS a0 a1 b0 b1).1 (addS a0 a1 b0 b1).2.1) true := by
    refine Ev.step (fun k => by simp only [carrefourlaw02_FracRing.j1]; rw [if_neg Bool.false_ne_true]) (Ev.bind (fSub_ev i1 i2 hb hb') ?_)
    by_cases e1 : (addS a0 a1 b0 b1).2.2 = 0
    · refine Ev.itep e1 ?_
      by_cases e2 : (subS (addS a0 a1 b0 b1).1 (addS a0 a1 b0 b1).2.1 b0 b1).2.2 = 0
      · refine Ev.itep e2 (Ev.bind (Right_ev ha ha') ?_)
        by_cases hr : rt a0 a1
        · rw [sub_back ha ha' hb hb' e1 hr]
          exact Ev.itep (decide_eq_true hr) (Ev.iten (by simp) awake02_ev)
        · exact Ev.iten (by simpa using hr) awake02_ev
      · exact Ev.iten e2 awake02_ev
    · exact Ev.iten e1 awake02_ev
  refine Ev.step (fun k => by simp only [carrefourlaw02_FracRing.j0]; rw [if_neg (by decide)]) (Ev.bind (fAdd_ev ha ha' hb hb') (Ev.bind (Mul_ev' i1 i2 hc hc') (Ev.bind (Mul_ev' ha ha' hc hc') (Ev.bind (Mul_ev' hb hb' hc hc') (Ev.bind (fAdd_ev i3 i4 i5 i6) ?_)))))
  by_cases e1 : (addS a0 a1 b0 b1).2.2 = 0
  · refine Ev.itep e1 ?_
    by_cases e2 : (mulS (addS a0 a1 b0 b1).1 (addS a0 a1 b0 b1).2.1 c0 c1).2.2 = 0
    · refine Ev.itep e2 ?_
      by_cases e3 : (mulS a0 a1 c0 c1).2.2 = 0
      · refine Ev.itep e3 ?_
        by_cases e4 : (mulS b0 b1 c0 c1).2.2 = 0
        · refine Ev.itep e4 ?_
          rw [← dist' ha ha' hb hb' hc hc' e1 e3 e4]
          refine Ev.itep e2 ?_
          have e5 : (!(mulS (addS a0 a1 b0 b1).1 (addS a0 a1 b0 b1).2.1 c0 c1).1 == (mulS (addS a0 a1 b0 b1).1 (addS a0 a1 b0 b1).2.1 c0 c1).1 || !(mulS (addS a0 a1 b0 b1).1 (addS a0 a1 b0 b1).2.1 c0 c1).2.1 == (mulS (addS a0 a1 b0 b1).1 (addS a0 a1 b0 b1).2.1 c0 c1).2.1) = false := by simp
          rw [e5]
          exact j1
        · exact Ev.iten e4 j1
      · exact Ev.iten e3 j1
    · exact Ev.iten e2 j1
  · exact Ev.iten e1 j1
end Go.Proofs.YtjgnaccamakpdaaDoor.Pure
