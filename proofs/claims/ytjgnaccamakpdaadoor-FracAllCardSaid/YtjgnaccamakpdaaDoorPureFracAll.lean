/- The pure law FracAll: the sum of all, and the greatest one, of any fractions (50 at most) is the document's answer's, or a sum on the way does not fit.
   Conditions: none beyond the kinds of the arguments. -/
import Derived.Test.YtjgnaccamakpdaaDoorP02w
namespace Go.Proofs.YtjgnaccamakpdaaDoor.Pure
set_option linter.unusedVariables false
open Go.RowKit Go.Proofs.YtjgnaccamakpdaaDoor.X Go.Proofs.YtjgnaccamakpdaaDoorW.PrintWords Go.Proofs.YtjgnaccamakpdaaDoorW.PrintLast
/-- Sums of a row of fractions, one after the other. -/
def sumS : List S23 → Int → Int → Int × Int × Int
  | [], p, q => (p, q, 0)
  | x :: t, p, q => if (addS p q x.f0 x.f1).2.2 = 0 then sumS t (addS p q x.f0 x.f1).1 (addS p q x.f0 x.f1).2.1 else (0, 0, (addS p q x.f0 x.f1).2.2)
/-- The greatest one of a row and of what was the greatest before. -/
def maxS : List S23 → Int → Int → Int × Int
  | [], p, q => (p, q)
  | x :: t, p, q => if cmpS x.f0 x.f1 p q > 0 then maxS t (nm x.f0 x.f1).1 (nm x.f0 x.f1).2 else maxS t p q
def Fits (l : List S23) : Prop := ∀ x ∈ l, I64 x.f0 ∧ I64 x.f1
theorem addS_fits {a b c d : Int} (ha : I64 a) (hb : I64 b) (hc : I64 c) (hd : I64 d) (h : (addS a b c d).2.2 = 0) : I64 (addS a b c d).1 ∧ I64 (addS a b c d).2.1 ∧ rt (addS a b c d).1 (addS a b c d).2.1 := by
  obtain ⟨i1, i2, i3, _⟩ := nm_spec ha hb
  obtain ⟨i4, i5, i6, _⟩ := nm_spec hc hd
  unfold addS at h ⊢
  obtain ⟨f1, f2, f3, _⟩ := lowZ_fits (by have := Int.mul_pos (show 0 < (nm a b).2 by omega) (show 0 < (nm c d).2 by omega); omega) h
  exact ⟨f1, f2, f3⟩
theorem rd_at {l : List S23} {i : Nat} (h : i < l.length) : rd_T23 l (i : Int) = l[i] := by
  unfold rd_T23
  rw [Int.toNat_natCast, List.getD_eq_getElem?_getD, List.getElem?_eq_getElem h]; rfl
theorem fsum_loop {l : List S23} (hl : Fits l) (hn : l.length ≤ 50) (m : Nat) : ∀ (i : Nat) (p q : Int), i + m = l.length → I64 p → I64 q → Ev (fun k => frac_Sum.l0 k l (l.length : Int) (i : Int) p q) (sumS (l.drop i) p q) := by
  induction m with
  | zero =>
    intro i p q hi hp hq
    rw [List.drop_eq_nil_of_le (by omega)]
    refine Ev.step (f := fun _ => some (p, q, 0)) (fun k => ?_) (Ev.now _)
    simp only [frac_Sum.l0]
    rw [if_neg (by omega)]
  | succ m ih =>
    intro i p q hi hp hq
    have hlt : i < l.length := by omega
    obtain ⟨x0, x1⟩ := hl l[i] (List.getElem_mem hlt)
    rw [List.drop_eq_getElem_cons hlt]
    unfold sumS
    refine Ev.step (f := fun k => (frac_Add.f k p q l[i].f0 l[i].f1).bind fun bt => if bt.2.2 = 0 then frac_Sum.l0 k l (l.length : Int) (wrap64 ((i : Int) + 1)) bt.1 bt.2.1 else some (0, 0, bt.2.2)) (fun k => ?_) ?_
    · simp only [frac_Sum.l0]
      rw [if_pos (by omega), if_pos (by omega), if_pos (by omega), rd_at hlt]
    · refine Ev.bind (fAdd_ev hp hq x0 x1) ?_
      by_cases h : (addS p q l[i].f0 l[i].f1).2.2 = 0
      · obtain ⟨f1, f2, _⟩ := addS_fits hp hq x0 x1 h
        rw [if_pos h]
        refine Ev.itep h ?_
        rw [w64 (by omega) (by omega)]
        exact ih (i + 1) _ _ (by omega) f1 f2
      · rw [if_neg h]
        exact Ev.iten h (Ev.now _)
theorem rsum_loop {l : List S23} (hl : Fits l) (hn : l.length ≤ 50) (m : Nat) : ∀ (i : Nat) (p q : Int), i + m = l.length → I64 p → I64 q → Ev (fun k => carrefourref02_Sum.l0 k l (i : Int) p q) (sumS (l.drop i) p q) := by
  induction m with
  | zero =>
    intro i p q hi hp hq
    rw [List.drop_eq_nil_of_le (by omega)]
    refine Ev.step (f := fun _ => some (p, q, 0)) (fun k => ?_) (Ev.now _)
    simp only [carrefourref02_Sum.l0]
    rw [if_neg (by omega)]
  | succ m ih =>
    intro i p q hi hp hq
    have hlt : i < l.length := by omega
    obtain ⟨x0, x1⟩ := hl l[i] (List.getElem_mem hlt)
    rw [List.drop_eq_getElem_cons hlt]
    unfold sumS
    refine Ev.step (f := fun k => (carrefourref02_Add.f k p q l[i].f0 l[i].f1).bind fun bt => if bt.2.2 = 0 then carrefourref02_Sum.l0 k l (wrap64 ((i : Int) + 1)) bt.1 bt.2.1 else some (0, 0, bt.2.2)) (fun k => ?_) ?_
    · simp only [carrefourref02_Sum.l0]
      rw [if_pos (by omega), if_pos (by omega), rd_at hlt]
    · refine Ev.bind (rAdd_ev hp hq x0 x1) ?_
      by_cases h : (addS p q l[i].f0 l[i].f1).2.2 = 0
      · obtain ⟨f1, f2, _⟩ := addS_fits hp hq x0 x1 h
        rw [if_pos h]
        refine Ev.itep h ?_
        rw [w64 (by omega) (by omega)]
        exact ih (i + 1) _ _ (by omega) f1 f2
      · rw [if_neg h]
        exact Ev.iten h (Ev.now _)
theorem fmax_loop {l : List S23} (hl : Fits l) (hn : l.length ≤ 50) (m : Nat) : ∀ (i : Nat) (p q : Int), i + m = l.length → I64 p → I64 q → Ev (fun k => frac_Max.l0 k l (l.length : Int) (i : Int) p q) (maxS (l.drop i) p q) := by
  induction m with
  | zero =>
    intro i p q hi hp hq
    rw [List.drop_eq_nil_of_le (by omega)]
    refine Ev.step (f := fun _ => some (p, q)) (fun k => ?_) (Ev.now _)
    simp only [frac_Max.l0]
    rw [if_neg (by omega)]
  | succ m ih =>
    intro i p q hi hp hq
    have hlt : i < l.length := by omega
    obtain ⟨x0, x1⟩ := hl l[i] (List.getElem_mem hlt)
    obtain ⟨n1, n2, _⟩ := nm_spec x0 x1
    rw [List.drop_eq_getElem_cons hlt]
    unfold maxS
    refine Ev.step (f := fun k => (frac_Cmp.f k l[i].f0 l[i].f1 p q).bind fun t => if t > 0 then ((frac_norm.f k l[i].f0 l[i].f1).bind fun bt => frac_Max.l0 k l (l.length : Int) (wrap64 ((i : Int) + 1)) bt.1 bt.2) else frac_Max.l0 k l (l.length : Int) (wrap64 ((i : Int) + 1)) p q) (fun k => ?_) ?_
    · simp only [frac_Max.l0]
      rw [if_pos (by omega), if_pos (by omega), if_pos (by omega), rd_at hlt]
    · refine Ev.bind (fCmp_ev x0 x1 hp hq) ?_
      rw [w64 (by omega) (by omega)]
      by_cases h : cmpS l[i].f0 l[i].f1 p q > 0
      · rw [if_pos h]
        exact Ev.itep h (Ev.bind (norm_ev x0 x1) (ih (i + 1) _ _ (by omega) n1 n2))
      · rw [if_neg h]
        exact Ev.iten h (ih (i + 1) _ _ (by omega) hp hq)
theorem rmax_loop {l : List S23} (hl : Fits l) (hn : l.length ≤ 50) (m : Nat) : ∀ (i : Nat) (p q : Int), i + m = l.length → 1 ≤ i → I64 p → I64 q → Ev (fun k => carrefourref02_Max.l0 k l (i : Int) p q) (maxS (l.drop i) p q) := by
  induction m with
  | zero =>
    intro i p q hi h1 hp hq
    rw [List.drop_eq_nil_of_le (by omega)]
    refine Ev.step (f := fun _ => some (p, q)) (fun k => ?_) (Ev.now _)
    simp only [carrefourref02_Max.l0]
    rw [if_neg (by omega)]
  | succ m ih =>
    intro i p q hi h1 hp hq
    have hlt : i < l.length := by omega
    obtain ⟨x0, x1⟩ := hl l[i] (List.getElem_mem hlt)
    obtain ⟨n1, n2, _⟩ := nm_spec x0 x1
    rw [List.drop_eq_getElem_cons hlt]
    unfold maxS
    refine Ev.step (f := fun k => (carrefourref02_Cmp.f k l[i].f0 l[i].f1 p q).bind fun t => if t > 0 then ((carrefourref02_Norm.f k l[i].f0 l[i].f1).bind fun bt => carrefourref02_Max.l0 k l (wrap64 ((i : Int) + 1)) bt.1 bt.2) else carrefourref02_Max.l0 k l (wrap64 ((i : Int) + 1)) p q) (fun k => ?_) ?_
    · simp only [carrefourref02_Max.l0]
      rw [if_pos (by omega), if_neg (by omega), if_pos (by omega), rd_at hlt]
    · refine Ev.bind (rCmp_ev x0 x1 hp hq) ?_
      rw [w64 (by omega) (by omega)]
      by_cases h : cmpS l[i].f0 l[i].f1 p q > 0
      · rw [if_pos h]
        exact Ev.itep h (Ev.bind (rNorm_ev x0 x1) (ih (i + 1) _ _ (by omega) (by omega) n1 n2))
      · rw [if_neg h]
        exact Ev.iten h (ih (i + 1) _ _ (by omega) (by omega) hp hq)
/-- The greatest one of a row. -/
def topS : List S23 → Int × Int
  | [] => (0, 1)
  | x :: t => maxS t (nm x.f0 x.f1).1 (nm x.f0 x.f1).2
theorem fmax_ev {l : List S23} (hl : Fits l) (hn : l.length ≤ 50) : Ev (fun k => frac_Max.f k l) (topS l) := by
  unfold frac_Max.f
  match l with
  | [] => exact Ev.itep rfl (Ev.bindc (a := (0, 1)) rfl (Ev.now _))
  | x :: t =>
    obtain ⟨x0, x1⟩ := hl x (by simp)
    obtain ⟨n1, n2, _⟩ := nm_spec x0 x1
    have ht : Fits t := fun y hy => hl y (by simp [hy])
    simp only [List.length_cons] at hn ⊢
    have h0 : rd_T23 (x :: t) 0 = x := rfl
    rw [h0]
    refine Ev.iten (by omega) (Ev.itep (by omega) (Ev.bind (norm_ev x0 x1) (Ev.itep (by omega) (Ev.bindc (a := t) rfl ?_))))
    have := fmax_loop ht (by omega) t.length 0 (nm x.f0 x.f1).1 (nm x.f0 x.f1).2 (by omega) n1 n2
    rw [List.drop_zero] at this
    exact this
theorem rmax_ev {l : List S23} (hl : Fits l) (hn : l.length ≤ 50) : Ev (fun k => carrefourref02_Max.f k l) (topS l) := by
  unfold carrefourref02_Max.f
  match l with
  | [] =>
    refine Ev.step (f := fun _ => some (0, 1)) (fun k => ?_) (Ev.now _)
    simp only [carrefourref02_Max.l0]
    rw [if_neg (by simp)]
  | x :: t =>
    obtain ⟨x0, x1⟩ := hl x (by simp)
    obtain ⟨n1, n2, _⟩ := nm_spec x0 x1
    have := rmax_loop hl hn t.length 1 (nm x.f0 x.f1).1 (nm x.f0 x.f1).2 (by simp; omega) (by omega) n1 n2
    refine Ev.step (fun k => ?_) (Ev.bind (rNorm_ev x0 x1) this) (f := fun k => (carrefourref02_Norm.f k x.f0 x.f1).bind fun bt => carrefourref02_Max.l0 k (x :: t) ((1 : Nat) : Int) bt.1 bt.2)
    simp only [carrefourref02_Max.l0]
    have h0 : rd_T23 (x :: t) 0 = x := rfl
    rw [if_pos (by simp), if_pos trivial, if_pos (by omega), h0, w64 (by omega) (by omega)]
    rfl
theorem FracAll (l : List S23) (hl : l.length ≤ maxLen ∧ ∀ a ∈ l, (Lit.int .i64 a.f0).wf = true ∧ (Lit.int .i64 a.f1).wf = true) : ∃ k, carrefourlaw02_FracAll.f k l = some true := by
  have hf : Fits l := fun x hx => ⟨i64_of_wf (hl.2 x hx).1, i64_of_wf (hl.2 x hx).2⟩
  have i : ∀ z : Int, -9223372036854775808 ≤ z → z < 9223372036854775808 → I64 z := fun z h0 h1 => ⟨h0, h1⟩
  refine Ev.rounds ?_
  unfold carrefourlaw02_FracAll.f
  by_cases hn : (l.length : Int) > 50
  · exact Ev.itep hn (Ev.now _)
  · have hn' : l.length ≤ 50 := by omega
    have s1 := fsum_loop hf hn' l.length 0 0 1 (by omega) (i _ (by decide) (by decide)) (i _ (by decide) (by decide))
    have s2 := rsum_loop hf hn' l.length 0 0 1 (by omega) (i _ (by decide) (by decide)) (i _ (by decide) (by decide))
    rw [List.drop_zero] at s1 s2
    have f1 : Ev (fun k => frac_Sum.f k l) (sumS l 0 1) := by unfold frac_Sum.f; exact Ev.bindc (a := (0, 1)) rfl s1
    have f2 : Ev (fun k => carrefourref02_Sum.f k l) (sumS l 0 1) := s2
    exact Ev.iten hn (Ev.bind f1 (Ev.bind f2 (Ev.bindc (same_f _ _) (Ev.itep (decide_eq_true rfl) (Ev.bind (fmax_ev hf hn') (Ev.bind (rmax_ev hf hn') (Ev.itep (by simp) awake02_ev)))))))
end Go.Proofs.YtjgnaccamakpdaaDoor.Pure
