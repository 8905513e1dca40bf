/- The pure law WebsterLost: what the lost time of any phases is.
   Conditions: none beyond the kinds of the arguments. -/
import Derived.Test.YtpdmiookdmncpaaDoorP12
namespace Go.Proofs.YtpdmiookdmncpaaDoor.Pure
set_option linter.unusedVariables false
open Go.RowKit Go.Proofs.YtpdmiookdmncpaaDoor.X Go.Proofs.YtpdmiookdmncpaaDoorW.PrintWords Go.Proofs.YtpdmiookdmncpaaDoorW.PrintLast
theorem Lost_both (l : List S46) (p : List Int) (hp : p.length ≤ 50) (d : Nat) : ∀ (i : Nat) (s : Int), p.length = i + d → ∃ r, Ev (fun k => webster_Lost.l0 k l p s (i : Int)) r ∧ Ev (fun k => carrefourref12_Lost.l0 k l p s (i : Int)) r := by
  induction d with
  | zero =>
    intro i s hi
    have g : ¬ (i : Int) < (p.length : Int) := by omega
    refine ⟨s, Ev.step (f := fun _ => some s) (fun k => ?_) (Ev.now _), Ev.step (f := fun _ => some s) (fun k => ?_) (Ev.now _)⟩
    · simp only [webster_Lost.l0]; rw [if_neg g]
    · simp only [carrefourref12_Lost.l0]; rw [if_neg g]
  | succ d ih =>
    intro i s hi
    have g1 : (i : Int) < (p.length : Int) := by omega
    have g2 : (0 : Int) ≤ (i : Int) := by omega
    have hj := ih (i + 1)
    have hd : p.length = i + 1 + d := by omega
    have hw : wrap64 ((i : Int) + 1) = ((i + 1 : Nat) : Int) := by rw [w64 (by omega) (by omega)]; rfl
    by_cases c5 : 0 ≤ rd p (i : Int)
    · by_cases c6 : rd p (i : Int) < (l.length : Int)
      · obtain ⟨r, h1, h2⟩ := hj (wrap64 (s + wrap64 ((rd_T46 l (rd p (i : Int))).f2 + (rd_T46 l (rd p (i : Int))).f3))) hd
        refine ⟨r, Ev.step (fun k => ?_) h1, Ev.step (fun k => ?_) h2⟩
        · simp only [webster_Lost.l0]; rw [if_pos g1, if_pos g2, if_pos c5, if_pos c6, hw]
        · simp only [carrefourref12_Lost.l0]; rw [if_pos g1, if_pos g2, if_pos c5, if_pos c6, if_pos c5, hw]
      · obtain ⟨r, h1, h2⟩ := hj s hd
        refine ⟨r, Ev.step (fun k => ?_) h1, Ev.step (fun k => ?_) h2⟩
        · simp only [webster_Lost.l0]; rw [if_pos g1, if_pos g2, if_pos c5, if_neg c6, hw]
        · simp only [carrefourref12_Lost.l0]; rw [if_pos g1, if_pos g2, if_pos c5, if_neg c6, hw]
    · obtain ⟨r, h1, h2⟩ := hj s hd
      refine ⟨r, Ev.step (fun k => ?_) h1, Ev.step (fun k => ?_) h2⟩
      · simp only [webster_Lost.l0]; rw [if_pos g1, if_pos g2, if_neg c5, hw]
      · simp only [carrefourref12_Lost.l0]; rw [if_pos g1, if_pos g2, if_neg c5, hw]
theorem Law_l0 (l : List S46) (p : List Int) (hl : l.length ≤ 50) (hp : p.length ≤ 50) (d : Nat) : ∀ i : Nat, l.length = i + d → Ev (fun k => carrefourlaw12_WebsterLost.l0 k l p (i : Int)) true := by
  induction d with
  | zero =>
    intro i hi
    have g : ¬ (i : Int) < (l.length : Int) := by omega
    obtain ⟨r, h1, h2⟩ := Lost_both l p hp p.length 0 0 (by omega)
    have H : Ev (fun k => (webster_Lost.f k l p).bind fun t286 => ((carrefourref12_Lost.f k l p).bind fun t287 => (if t286 = t287 then ((carrefourlaw12_awake.f k).bind fun t288 => (some t288)) else (some false)))) true :=
      Ev.bind h1 (Ev.bind h2 (Ev.itep rfl (Ev.bind awake12_ev (Ev.now _))))
    refine Ev.step (fun k => ?_) H
    simp only [carrefourlaw12_WebsterLost.l0]; rw [if_neg g]
  | succ d ih =>
    intro i hi
    have g1 : (i : Int) < (l.length : Int) := by omega
    have g2 : (0 : Int) ≤ (i : Int) := by omega
    have hd := ih (i + 1) (by omega)
    have hw : wrap64 ((i : Int) + 1) = ((i + 1 : Nat) : Int) := by clear hd; rw [w64 (by omega) (by omega)]; rfl
    have H : Ev (fun k => if (rd_T46 l (i : Int)).f2 < 0 then some true else (if (rd_T46 l (i : Int)).f2 > 1000000000000 then some true else (if (rd_T46 l (i : Int)).f3 < 0 then some true else (if (rd_T46 l (i : Int)).f3 > 1000000000000 then some true else carrefourlaw12_WebsterLost.l0 k l p ((i + 1 : Nat) : Int))))) true := by
      by_cases a : (rd_T46 l (i : Int)).f2 < 0
      · exact Ev.itep a (Ev.now _)
      · refine Ev.iten a ?_
        by_cases b : (rd_T46 l (i : Int)).f2 > 1000000000000
        · exact Ev.itep b (Ev.now _)
        · refine Ev.iten b ?_
          by_cases c : (rd_T46 l (i : Int)).f3 < 0
          · exact Ev.itep c (Ev.now _)
          · refine Ev.iten c ?_
            by_cases e : (rd_T46 l (i : Int)).f3 > 1000000000000
            · exact Ev.itep e (Ev.now _)
            · exact Ev.iten e hd
    refine Ev.step (fun k => ?_) H
    simp only [carrefourlaw12_WebsterLost.l0]
    rw [if_pos g1, if_pos g2, hw]
theorem WebsterLost (l : List S46) (p : List Int) {P Q : Prop} (h0 : P) (h1 : Q) : ∃ k, carrefourlaw12_WebsterLost.f k l p = some true := by
  refine Ev.rounds ?_
  unfold carrefourlaw12_WebsterLost.f
  have yes : Ev (fun k => carrefourlaw12_WebsterLost.j0 k l p true) true := by
    refine Ev.step (f := fun _ => some true) (fun k => ?_) (Ev.now _)
    simp only [carrefourlaw12_WebsterLost.j0]
    rw [if_pos trivial]
  by_cases a : (l.length : Int) > 50
  · exact Ev.itep a yes
  · refine Ev.iten a ?_
    by_cases b : (p.length : Int) > 50
    · rw [decide_eq_true b]; exact yes
    · rw [decide_eq_false b]
      refine Ev.step (fun k => ?_) (Law_l0 l p (by omega) (by omega) l.length 0 (by omega))
      simp only [carrefourlaw12_WebsterLost.j0]
      rw [if_neg (by decide)]
      rfl
end Go.Proofs.YtpdmiookdmncpaaDoor.Pure
