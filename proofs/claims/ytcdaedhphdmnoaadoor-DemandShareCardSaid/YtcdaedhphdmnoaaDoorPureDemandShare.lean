/- The pure law DemandShare: a volume that is used twice has twice the ratio, where both fit.
   Conditions: none beyond the kinds of the arguments. -/
import Derived.Test.YtcdaedhphdmnoaaDoorP09c
import Derived.Test.YtcdaedhphdmnoaaDoorP02u
namespace Go.Proofs.YtcdaedhphdmnoaaDoor.Pure
set_option linter.unusedVariables false
open Go.RowKit Go.Proofs.YtcdaedhphdmnoaaDoor.X Go.Proofs.YtcdaedhphdmnoaaDoorW.PrintWords Go.Proofs.YtcdaedhphdmnoaaDoorW.PrintLast
theorem twice_rat {u0 u1 v s p0 p1 : Int} (hv : I64 v) (hv2 : I64 (2 * v)) (hs : I64 s) (ha : (ratS u0 u1 v s p0 p1).2.2 = 0) (hb : (ratS u0 u1 (2 * v) s p0 p1).2.2 = 0) :
    (addS (ratS u0 u1 v s p0 p1).1 (ratS u0 u1 v s p0 p1).2.1 (ratS u0 u1 v s p0 p1).1 (ratS u0 u1 v s p0 p1).2.1) = ratS u0 u1 (2 * v) s p0 p1 := by
  obtain ⟨hf, hc, c0, s0, ea⟩ := rat_spec hv hs ha
  obtain ⟨_, _, _, _, eb⟩ := rat_spec hv2 hs hb
  obtain ⟨a1i, a2i, ar⟩ := (ratS_fine (u0 := u0) (u1 := u1) (p0 := p0) (p1 := p1) hv hs).1 ha
  obtain ⟨b1i, b2i, br⟩ := (ratS_fine (u0 := u0) (u1 := u1) (p0 := p0) (p1 := p1) hv2 hs).1 hb
  have f2p := ((ofS_fine u0 u1).1 hf).2.2.1
  have e3 : ratS u0 u1 (2 * v) s p0 p1 = ((ratS u0 u1 (2 * v) s p0 p1).1, (ratS u0 u1 (2 * v) s p0 p1).2.1, 0) := by
    generalize ratS u0 u1 (2 * v) s p0 p1 = y at *
    obtain ⟨y1, y2, y3⟩ := y
    simp only at hb
    rw [hb]
  rw [e3]
  rw [← lowZ_self b1i b2i br]
  unfold addS
  rw [nm_of ar]
  simp only
  have a2p := ar.1
  have b2p := br.1
  generalize (ratS u0 u1 v s p0 p1).1 = a1 at *
  generalize (ratS u0 u1 v s p0 p1).2.1 = a2 at *
  generalize (ratS u0 u1 (2 * v) s p0 p1).1 = b1 at *
  generalize (ratS u0 u1 (2 * v) s p0 p1).2.1 = b2 at *
  generalize (ofS u0 u1).1 = f1 at *
  generalize (ofS u0 u1).2.1 = f2 at *
  generalize (ofS p0 p1).1 = c1 at *
  generalize (ofS p0 p1).2.1 = c2 at *
  have hK : s * c1 * f2 ≠ 0 := Int.mul_ne_zero (Int.mul_ne_zero s0 c0) (by omega)
  have k : (s * c1 * f2) * (b1 * a2) = (s * c1 * f2) * (2 * a1 * b2) := by
    clear e3 hf hc a1i a2i ar b1i b2i br hv hv2 hs ha hb hK a2p b2p f2p
    grind
  have k2 := Int.eq_of_mul_eq_mul_left hK k
  have hp2 : 0 < a2 * a2 := Int.mul_pos (by omega) (by omega)
  have n1 : (((a2 * a2).natAbs : Nat) : Int) = a2 * a2 := by omega
  have n2 : ((b2.natAbs : Nat) : Int) = b2 := by omega
  refine lowZ_eq (by omega) (by omega) ?_
  rw [n1, n2]
  clear n1 n2 hp2 e3 hf hc a1i a2i ar b1i b2i br hv hv2 hs ha hb hK a2p b2p f2p k ea eb
  grind
theorem DemandShare (n : ByteArray) (v s u0 u1 a5 a6 a7 a8 a9 a10 p0 p1 : Int) {P0 P5 P6 P7 P8 P9 P10 : Prop} (h0 : P0) (hv : (Lit.int .i64 v).wf = true) (hs : (Lit.int .i64 s).wf = true) (h3 : (Lit.int .i64 u0).wf = true) (h4 : (Lit.int .i64 u1).wf = true) (h5 : P5) (h6 : P6) (h7 : P7) (h8 : P8) (h9 : P9) (h10 : P10) (hp0 : (Lit.int .i64 p0).wf = true) (hp1 : (Lit.int .i64 p1).wf = true) :
    ∃ k, carrefourlaw09_DemandShare.f k n v s u0 u1 a5 a6 a7 a8 a9 a10 p0 p1 = some true := by
  have hv := i64_of_wf hv; have hs := i64_of_wf hs; have h3 := i64_of_wf h3; have h4 := i64_of_wf h4; have hp0 := i64_of_wf hp0; have hp1 := i64_of_wf hp1
  suffices h : Ev (fun k => carrefourlaw09_DemandShare.f k n v s u0 u1 a5 a6 a7 a8 a9 a10 p0 p1) true by obtain ⟨K, h⟩ := h; exact ⟨K, h K (Nat.le_refl _)⟩
  have aw : Ev (fun k => (carrefourlaw09_awake.f k).bind fun t => some t) true := Ev.bind awake09_ev (Ev.now _)
  unfold carrefourlaw09_DemandShare.f
  refine Ev.bind (Ratio_ev n hv hs h3 h4 hp0 hp1) ?_
  have out : Ev (fun k => carrefourlaw09_DemandShare.j0 k (ratS u0 u1 v s p0 p1).2.2 true n v s u0 u1 a5 a6 a7 a8 a9 a10 p0 p1 (ratS u0 u1 v s p0 p1).1 (ratS u0 u1 v s p0 p1).2.1) true := by
    refine Ev.step (fun k => ?_) aw
    simp only [carrefourlaw09_DemandShare.j0]
    rw [if_pos trivial]
  by_cases a : v < 0
  · exact Ev.itep a out
  · refine Ev.iten a ?_
    by_cases b : v > 1000000000
    · rw [decide_eq_true b]; exact out
    · rw [decide_eq_false b]
      have hw : wrap64 (2 * v) = 2 * v := w64 (by omega) (by omega)
      have hv2 : I64 (2 * v) := ⟨by omega, by omega⟩
      obtain ⟨x1, x2⟩ := ratS_fine (u0 := u0) (u1 := u1) (p0 := p0) (p1 := p1) hv hs
      have i1 : I64 (ratS u0 u1 v s p0 p1).1 ∧ I64 (ratS u0 u1 v s p0 p1).2.1 := by
        by_cases e : (ratS u0 u1 v s p0 p1).2.2 = 0
        · exact ⟨(x1 e).1, (x1 e).2.1⟩
        · rw [(x2 e).1, (x2 e).2]; exact ⟨⟨by decide, by decide⟩, ⟨by decide, by decide⟩⟩
      have H : Ev (fun k => (demand_Ratio.f k n (2 * v) s u0 u1 a5 a6 a7 a8 a9 a10 p0 p1).bind fun bt568 => ((carrefourref02_Add.f k (ratS u0 u1 v s p0 p1).1 (ratS u0 u1 v s p0 p1).2.1 (ratS u0 u1 v s p0 p1).1 (ratS u0 u1 v s p0 p1).2.1).bind fun bt572 => (if (ratS u0 u1 v s p0 p1).2.2 = 0 then (if bt568.2.2 = 0 then (if bt572.2.2 = 0 then (if (bt568.1 == bt572.1 && (bt568.2.1 == bt572.2.1)) = true then ((carrefourlaw09_awake.f k).bind fun t576 => (some t576)) else (some false)) else (some false)) else ((carrefourlaw09_awake.f k).bind fun t577 => (some t577))) else ((carrefourlaw09_awake.f k).bind fun t578 => (some t578))))) true := by
        refine Ev.bind (Ratio_ev n hv2 hs h3 h4 hp0 hp1) (Ev.bind (rAdd_ev i1.1 i1.2 i1.1 i1.2) ?_)
        by_cases e1 : (ratS u0 u1 v s p0 p1).2.2 = 0
        · refine Ev.itep e1 ?_
          by_cases e2 : (ratS u0 u1 (2 * v) s p0 p1).2.2 = 0
          · refine Ev.itep e2 ?_
            rw [twice_rat hv hv2 hs e1 e2]
            exact Ev.itep e2 (Ev.itep (by simp) aw)
          · exact Ev.iten e2 aw
        · exact Ev.iten e1 aw
      refine Ev.step (fun k => ?_) H
      simp only [carrefourlaw09_DemandShare.j0]
      rw [if_neg (by decide), hw]
end Go.Proofs.YtcdaedhphdmnoaaDoor.Pure
