/- The pure law OrderRank: at which place any row stands, which one is next, and where each number stands.
   Conditions: none beyond the kinds of the arguments. -/
import Derived.Test.YtnhnmbfhepeadaaP13f
namespace Go.Proofs.Ytnhnmbfhepeadaa.Pure
set_option linter.unusedVariables false
open Go.RowKit Go.Proofs.Ytnhnmbfhepeadaa.X Go.Proofs.YtnhnmbfhepeadaaW.PrintWords Go.Proofs.YtnhnmbfhepeadaaW.PrintLast
theorem nextZ_length (p : List Int) : (nextZ p).1.length < 9223372036854775807 := by
  unfold nextZ
  split
  · rename_i h
    obtain ⟨h8, _⟩ := rtB_iff.1 h.1
    show (nth p.length (up p.length) (rank p + 1)).length < _
    rw [(nth_spec p.length (up p.length) (rank p + 1) (up_Up _) (up_length _) h.2).1.length_eq, up_length]; omega
  · simp
theorem turnZ_length (p : List Int) : (turnZ p).length < 9223372036854775807 := by
  unfold turnZ
  split
  · rename_i h
    obtain ⟨h8, _⟩ := rtB_iff.1 h
    rw [turn_length]; omega
  · simp
theorem OrderRank (p : List Int) (hm : p.length ≤ maxLen) (hl : p.length * 8 ≤ 140737488351232) (hx : ∀ x ∈ p, (Lit.int .i64 x).wf = true) : ∃ q, carrefourlaw13_OrderRank.f q p = some true := by
  suffices h : Ev (fun q => carrefourlaw13_OrderRank.f q p) true by obtain ⟨K, h⟩ := h; exact ⟨K, h K (Nat.le_refl _)⟩
  unfold carrefourlaw13_OrderRank.f
  have aw : Ev (fun q => (carrefourlaw13_awake.f q).bind fun t => some t) true := Ev.bind awake13_ev (Ev.now _)
  have yes : Ev (fun q => carrefourlaw13_OrderRank.j0 q p true) true := by
    refine Ev.step (f := fun _ => some true) (fun q => ?_) (Ev.now _)
    simp only [carrefourlaw13_OrderRank.j0]
    rw [if_pos trivial]
  have go : Ev (fun q => carrefourlaw13_OrderRank.j0 q p false) true := by
    have H : Ev (fun q => (order_Next.f q p).bind fun bt186 => ((carrefourref13_Next.f q p).bind fun bt190 => ((order_Rank.f q p).bind fun t194 => ((carrefourref13_Rank.f q p).bind fun t195 => (if t194 = t195 then (if (bt186.2 == bt190.2) = true then ((carrefourref13_Same.f q bt186.1 bt190.1).bind fun t196 => (if t196 = true then ((order_Turned.f q p).bind fun t197 => ((carrefourref13_Turned.f q p).bind fun t200 => ((carrefourref13_Same.f q t197 t200).bind fun t203 => (if t203 = true then ((carrefourlaw13_awake.f q).bind fun t204 => (some t204)) else (some false))))) else (some false))) else (some false)) else (some false)))))) true :=
      Ev.bind (Next_ev p) (Ev.bind (RNext_ev p) (Ev.bind (Rank_ev p) (Ev.bind (RRank_ev p) (Ev.itep rfl (Ev.itep (by simp) (Ev.bind (Same_ev _ _ (nextZ_length p)) (Ev.itep (decide_eq_true rfl) (Ev.bind (Turned_ev p) (Ev.bind (RTurned_ev p) (Ev.bind (Same_ev _ _ (turnZ_length p)) (Ev.itep (decide_eq_true rfl) aw)))))))))))
    refine Ev.step (fun q => ?_) H
    simp only [carrefourlaw13_OrderRank.j0]
    rw [if_neg (by decide)]
  have any : ∀ b, Ev (fun q => carrefourlaw13_OrderRank.j0 q p b) true := fun b => by cases b; exact go; exact yes
  by_cases h6 : (p.length : Int) > 6
  · refine Ev.itep h6 ?_
    by_cases h8 : (p.length : Int) ≤ 8
    · exact Ev.itep h8 yes
    · exact Ev.iten h8 (any _)
  · exact Ev.iten h6 (any _)
end Go.Proofs.Ytnhnmbfhepeadaa.Pure
