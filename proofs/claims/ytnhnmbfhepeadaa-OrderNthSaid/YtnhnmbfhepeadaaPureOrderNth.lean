/- The pure law OrderNth: which order stands at any place, and how many there are.
   Conditions: none beyond the kinds of the arguments. -/
import Derived.Test.YtnhnmbfhepeadaaP13c
namespace Go.Proofs.Ytnhnmbfhepeadaa.Pure
set_option linter.unusedVariables false
open Go.RowKit Go.Proofs.Ytnhnmbfhepeadaa.X Go.Proofs.YtnhnmbfhepeadaaW.PrintWords Go.Proofs.YtnhnmbfhepeadaaW.PrintLast
theorem OrderNth (n k : Int) (h0 : (Lit.int .i64 n).wf = true) (h1 : (Lit.int .i64 k).wf = true) : ∃ q, carrefourlaw13_OrderNth.f q n k = some true := by
  suffices h : Ev (fun q => carrefourlaw13_OrderNth.f q n k) true by obtain ⟨K, h⟩ := h; exact ⟨K, h K (Nat.le_refl _)⟩
  unfold carrefourlaw13_OrderNth.f
  have aw : Ev (fun q => (carrefourlaw13_awake.f q).bind fun t => some t) true := Ev.bind awake13_ev (Ev.now _)
  have far : Ev (fun q => carrefourlaw13_OrderNth.j0 q n k false) true := by
    have H : Ev (fun q => (order_Nth.f q n k).bind fun t165 => ((carrefourref13_Nth.f q n k).bind fun t168 => ((carrefourref13_Same.f q t165 t168).bind fun t171 => (if t171 = true then ((carrefourlaw13_awake.f q).bind fun t172 => (some t172)) else (some false))))) true :=
      Ev.bind (Nth_ev n k) (Ev.bind (RNth_ev n k) (Ev.bind (Same_ev (nthZ n k) (nthZ n k) (by have := nthZ_length n k; omega)) (Ev.itep (decide_eq_true rfl) aw)))
    refine Ev.step (fun q => ?_) H
    simp only [carrefourlaw13_OrderNth.j0]
    rw [if_neg (by decide)]
  refine Ev.bind (Count_ev n) (Ev.bind (RCount_ev n) (Ev.itep rfl ?_))
  by_cases h : n > 6
  · refine Ev.itep h ?_
    by_cases h8 : n ≤ 8
    · rw [decide_eq_true h8]
      refine Ev.step (fun q => ?_) aw
      simp only [carrefourlaw13_OrderNth.j0]
      rfl
    · rw [decide_eq_false h8]; exact far
  · exact Ev.iten h far
end Go.Proofs.Ytnhnmbfhepeadaa.Pure
