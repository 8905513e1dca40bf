/- The pure law DemandGrows: a greater volume has no lesser ratio, a greater flow has no greater one, and a volume of 0 has the ratio 0.
   Conditions: none beyond the kinds of the arguments. -/
import Derived.Test.YtcdaedhphdmnoaaDoorP09c
import Derived.Test.YtcdaedhphdmnoaaDoorP02u
namespace Go.Proofs.YtcdaedhphdmnoaaDoor.Pure
set_option linter.unusedVariables false
open Go.RowKit Go.Proofs.YtcdaedhphdmnoaaDoor.X Go.Proofs.YtcdaedhphdmnoaaDoorW.PrintWords Go.Proofs.YtcdaedhphdmnoaaDoorW.PrintLast
theorem ofS_good {u0 u1 : Int} (i0 : I64 u0) (i1 : I64 u1) (h0 : 1 ≤ u0) (h1 : 1 ≤ u1) : (ofS u0 u1).2.2 = 0 ∧ 1 ≤ (ofS u0 u1).1 ∧ 1 ≤ (ofS u0 u1).2.1 := by
  have i0' := i0.2; have i1' := i1.2
  have e : ofS u0 u1 = lowZ u0 u1.natAbs := by unfold ofS; rw [if_neg (by omega), if_neg (by omega)]
  have hz : (ofS u0 u1).2.2 = 0 := by rw [e]; exact lowZ_small (by omega) (by omega) (by omega)
  obtain ⟨_, _, r⟩ := (ofS_fine u0 u1).1 hz
  refine ⟨hz, ?_, r.1⟩
  have hz' := hz
  rw [e] at hz'
  obtain ⟨_, _, _, he⟩ := lowZ_fits (by omega) hz'
  rw [← e] at he
  have hp : 0 < u0 * (ofS u0 u1).2.1 := Int.mul_pos (by omega) (by have := r.1; omega)
  rw [← he] at hp
  have := Int.pos_of_mul_pos_left hp (by omega)
  omega
theorem lowZ_nought {d : Nat} (hd : d ≠ 0) (h : d < 9223372036854775808) : (lowZ 0 d).2.2 = 0 ∧ (lowZ 0 d).1 = 0 := by
  have hz : (lowZ 0 d).2.2 = 0 := lowZ_small hd (by decide) h
  obtain ⟨_, _, _, he⟩ := lowZ_fits hd hz
  rw [Int.zero_mul] at he
  refine ⟨hz, ?_⟩
  rcases Int.mul_eq_zero.1 he with e | e
  · exact e
  · omega
theorem divS_nought {b c d : Int} (hb : I64 b) (hc : I64 c) (hd : I64 d) (h1 : rt 0 b) (h2 : rt c d) (c0 : c ≠ 0) (hs : (b * c).natAbs < 9223372036854775808) : (divS 0 b c d).2.2 = 0 ∧ (divS 0 b c d).1 = 0 := by
  unfold divS
  rw [nm_of h1, nm_of h2]
  simp only
  rw [if_neg c0, Int.zero_mul]
  have hne := Int.mul_ne_zero (show b ≠ 0 by have := h1.1; omega) c0
  have e : (if c < 0 then -(0 : Int) else 0) = 0 := by split <;> rfl
  rw [e]
  exact lowZ_nought (by omega) hs
theorem rt_nought {b : Int} (h : rt 0 b) : b = 1 := by
  obtain ⟨h1, h2⟩ := h
  unfold gg at h2
  have : Nat.gcd 0 b.natAbs = b.natAbs := Nat.gcd_zero_left _
  simp at h2
  omega
/-- A volume of 0 has the ratio 0. -/
theorem rat_nought {u0 u1 s p0 p1 : Int} (i0 : I64 u0) (i1 : I64 u1) (j0 : I64 p0) (j1 : I64 p1) (h0 : 1 ≤ u0) (h1 : 1 ≤ u1) (k0 : 1 ≤ p0) (k1 : 1 ≤ p1) (hs : I64 s) (s0 : 1 ≤ s) :
    (ratS u0 u1 0 s p0 p1).2.2 = 0 ∧ (ratS u0 u1 0 s p0 p1).1 = 0 := by
  obtain ⟨hf, f1, f2⟩ := ofS_good i0 i1 h0 h1
  obtain ⟨hc, c1, c2⟩ := ofS_good j0 j1 k0 k1
  obtain ⟨f1i, f2i, fr⟩ := (ofS_fine u0 u1).1 hf
  obtain ⟨c1i, c2i, cr⟩ := (ofS_fine p0 p1).1 hc
  have z0 : I64 0 := ⟨by decide, by decide⟩
  have em : mulS (ofS u0 u1).1 (ofS u0 u1).2.1 0 1 = lowZ 0 (ofS u0 u1).2.1.natAbs := by
    unfold mulS; rw [nm_of fr, nm_v1]; simp only [Int.mul_zero, Int.mul_one]
  have f2u := f2i.2
  obtain ⟨hm, m1⟩ := lowZ_nought (d := (ofS u0 u1).2.1.natAbs) (by omega) (by omega)
  rw [← em] at hm m1
  obtain ⟨m1i, m2i, mr⟩ := (mulS_fine f1i f2i z0 i64_one).1 hm
  have mr0 := mr
  rw [m1] at mr0
  have m2 := rt_nought mr0
  have ev : volS u0 u1 0 p0 p1 = divS 0 1 (ofS p0 p1).1 (ofS p0 p1).2.1 := by
    unfold volS; rw [if_pos hf, if_pos hm, if_pos hc, m1, m2]
  have c1u := c1i.2
  obtain ⟨hv, w1⟩ := divS_nought (b := 1) i64_one c1i c2i (rt_one 0) cr (by omega) (by omega)
  rw [← ev] at hv w1
  obtain ⟨w1i, w2i, wr⟩ := (volS_fine (u0 := u0) (u1 := u1) (p0 := p0) (p1 := p1) z0).1 hv
  have wr0 := wr
  rw [w1] at wr0
  have w2 := rt_nought wr0
  have er : ratS u0 u1 0 s p0 p1 = divS 0 1 s 1 := by unfold ratS; rw [if_pos hv, w1, w2]
  rw [er]
  have hsu := hs.2
  exact divS_nought (b := 1) i64_one hs i64_one (rt_one 0) (rt_one s) (by omega) (by omega)
theorem cmp_le {a b c d : Int} (h1 : rt a b) (h2 : rt c d) (h : a * d ≤ c * b) : ¬ cmpS a b c d > 0 := by
  unfold cmpS
  rw [nm_of h1, nm_of h2]
  unfold sgn
  simp only
  split
  · omega
  · rw [if_neg (by omega)]; omega
theorem grow_v {u0 u1 v s p0 p1 : Int} (i0 : I64 u0) (i1 : I64 u1) (j0 : I64 p0) (j1 : I64 p1) (h0 : 1 ≤ u0) (h1 : 1 ≤ u1) (k0 : 1 ≤ p0) (k1 : 1 ≤ p1) (hs : I64 s) (s0 : 1 ≤ s) (hv : I64 v) (hv' : I64 (v + 1))
    (ha : (ratS u0 u1 v s p0 p1).2.2 = 0) (hb : (ratS u0 u1 (v + 1) s p0 p1).2.2 = 0) : ¬ cmpS (ratS u0 u1 v s p0 p1).1 (ratS u0 u1 v s p0 p1).2.1 (ratS u0 u1 (v + 1) s p0 p1).1 (ratS u0 u1 (v + 1) s p0 p1).2.1 > 0 := by
  obtain ⟨_, f1, f2⟩ := ofS_good i0 i1 h0 h1
  obtain ⟨_, c1, c2⟩ := ofS_good j0 j1 k0 k1
  obtain ⟨_, _, _, _, ea⟩ := rat_spec hv hs ha
  obtain ⟨_, _, _, _, eb⟩ := rat_spec hv' hs hb
  have ar := ((ratS_fine (u0 := u0) (u1 := u1) (p0 := p0) (p1 := p1) hv hs).1 ha).2.2
  have br := ((ratS_fine (u0 := u0) (u1 := u1) (p0 := p0) (p1 := p1) hv' hs).1 hb).2.2
  have hK : 0 < s * (ofS p0 p1).1 * (ofS u0 u1).2.1 := Int.mul_pos (Int.mul_pos (by omega) (by omega)) (by omega)
  refine cmp_le ar br (cross_le ar.1 br.1 hK hK ea eb (Int.mul_le_mul_of_nonneg_right ?_ (by omega)))
  refine Int.mul_le_mul_of_nonneg_right ?_ (by omega)
  exact Int.mul_le_mul_of_nonneg_left (by omega) (by omega)
theorem grow_s {u0 u1 v s p0 p1 : Int} (i0 : I64 u0) (i1 : I64 u1) (j0 : I64 p0) (j1 : I64 p1) (h0 : 1 ≤ u0) (h1 : 1 ≤ u1) (k0 : 1 ≤ p0) (k1 : 1 ≤ p1) (hs : I64 s) (hs' : I64 (s + 1)) (s0 : 1 ≤ s) (hv : I64 v) (v0 : 0 ≤ v)
    (ha : (ratS u0 u1 v s p0 p1).2.2 = 0) (hb : (ratS u0 u1 v (s + 1) p0 p1).2.2 = 0) : ¬ cmpS (ratS u0 u1 v (s + 1) p0 p1).1 (ratS u0 u1 v (s + 1) p0 p1).2.1 (ratS u0 u1 v s p0 p1).1 (ratS u0 u1 v s p0 p1).2.1 > 0 := by
  obtain ⟨_, f1, f2⟩ := ofS_good i0 i1 h0 h1
  obtain ⟨_, c1, c2⟩ := ofS_good j0 j1 k0 k1
  obtain ⟨_, _, _, _, ea⟩ := rat_spec hv hs ha
  obtain ⟨_, _, _, _, eb⟩ := rat_spec hv hs' hb
  have ar := ((ratS_fine (u0 := u0) (u1 := u1) (p0 := p0) (p1 := p1) hv hs).1 ha).2.2
  have br := ((ratS_fine (u0 := u0) (u1 := u1) (p0 := p0) (p1 := p1) hv hs').1 hb).2.2
  have hK : 0 < s * (ofS p0 p1).1 * (ofS u0 u1).2.1 := Int.mul_pos (Int.mul_pos (by omega) (by omega)) (by omega)
  have hL : 0 < (s + 1) * (ofS p0 p1).1 * (ofS u0 u1).2.1 := Int.mul_pos (Int.mul_pos (by omega) (by omega)) (by omega)
  refine cmp_le br ar (cross_le br.1 ar.1 hL hK eb ea ?_)
  have hX : 0 ≤ (ofS u0 u1).1 * v * (ofS p0 p1).2.1 := Int.mul_nonneg (Int.mul_nonneg (by omega) v0) (by omega)
  refine Int.mul_le_mul_of_nonneg_left ?_ hX
  refine Int.mul_le_mul_of_nonneg_right ?_ (by omega)
  exact Int.mul_le_mul_of_nonneg_right (by omega) (by omega)
theorem DemandGrows (n : ByteArray) (v s u0 u1 a5 a6 a7 a8 a9 a10 p0 p1 : Int) {P0 P5 P6 P7 P8 P9 P10 : Prop} (h0 : P0) (hv : (Lit.int .i64 v).wf = true) (hs : (Lit.int .i64 s).wf = true) (h3 : (Lit.int .i64 u0).wf = true) (h4 : (Lit.int .i64 u1).wf = true) (h5 : P5) (h6 : P6) (h7 : P7) (h8 : P8) (h9 : P9) (h10 : P10) (hp0 : (Lit.int .i64 p0).wf = true) (hp1 : (Lit.int .i64 p1).wf = true) :
    ∃ k, carrefourlaw09_DemandGrows.f k n v s u0 u1 a5 a6 a7 a8 a9 a10 p0 p1 = some true := by
  have hv := i64_of_wf hv; have hs := i64_of_wf hs; have h3 := i64_of_wf h3; have h4 := i64_of_wf h4; have hp0 := i64_of_wf hp0; have hp1 := i64_of_wf hp1
  suffices h : Ev (fun k => carrefourlaw09_DemandGrows.f k n v s u0 u1 a5 a6 a7 a8 a9 a10 p0 p1) true by obtain ⟨K, h⟩ := h; exact ⟨K, h K (Nat.le_refl _)⟩
  have aw : Ev (fun k => (carrefourlaw09_awake.f k).bind fun t => some t) true := Ev.bind awake09_ev (Ev.now _)
  unfold carrefourlaw09_DemandGrows.f
  have out : Ev (fun k => carrefourlaw09_DemandGrows.j0 k true n v s u0 u1 a5 a6 a7 a8 a9 a10 p0 p1) true := by
    refine Ev.step (fun k => ?_) aw
    simp only [carrefourlaw09_DemandGrows.j0]
    rw [if_pos trivial]
  by_cases c1 : v < 0
  · exact Ev.itep c1 out
  · refine Ev.iten c1 ?_
    by_cases c2 : v > 1000000000
    · exact Ev.itep c2 out
    · refine Ev.iten c2 ?_
      by_cases c3 : s < 1
      · exact Ev.itep c3 out
      · refine Ev.iten c3 ?_
        by_cases c4 : s > 1000000000
        · exact Ev.itep c4 out
        · refine Ev.iten c4 ?_
          by_cases c5 : u0 < 1
          · exact Ev.itep c5 out
          · refine Ev.iten c5 ?_
            by_cases c6 : u1 < 1
            · exact Ev.itep c6 out
            · refine Ev.iten c6 ?_
              by_cases c7 : p0 < 1
              · exact Ev.itep c7 out
              · refine Ev.iten c7 ?_
                by_cases c8 : p1 < 1
                · rw [decide_eq_true c8]; exact out
                · rw [decide_eq_false c8]
                  have hv' : I64 (v + 1) := ⟨by omega, by omega⟩
                  have hs' : I64 (s + 1) := ⟨by omega, by omega⟩
                  have w1 : wrap64 (v + 1) = v + 1 := w64 (by omega) (by omega)
                  have w2 : wrap64 (s + 1) = s + 1 := by clear w1; exact w64 (by omega) (by omega)
                  have q1 : 1 ≤ u0 := by clear w1 w2; omega
                  have q2 : 1 ≤ u1 := by clear w1 w2; omega
                  have q3 : 1 ≤ p0 := by clear w1 w2; omega
                  have q4 : 1 ≤ p1 := by clear w1 w2; omega
                  have q5 : 1 ≤ s := by clear w1 w2; omega
                  have q6 : 0 ≤ v := by clear w1 w2; omega
                  obtain ⟨z1, z2⟩ := rat_nought h3 h4 hp0 hp1 q1 q2 q3 q4 hs q5
                  have j1 : Ev (fun k => carrefourlaw09_DemandGrows.j1 k false n v s u0 u1 a5 a6 a7 a8 a9 a10 p0 p1) true := by
                    have H : Ev (fun k => (demand_Ratio.f k n 0 s u0 u1 a5 a6 a7 a8 a9 a10 p0 p1).bind fun bt443 => (if bt443.2.2 = 0 then (if bt443.1 = 0 then ((carrefourlaw09_awake.f k).bind fun t447 => (some t447)) else (some false)) else (some false))) true :=
                      Ev.bind (Ratio_ev n ⟨by decide, by decide⟩ hs h3 h4 hp0 hp1) (Ev.itep z1 (Ev.itep z2 aw))
                    refine Ev.step (fun k => ?_) H
                    simp only [carrefourlaw09_DemandGrows.j1]
                    rw [if_neg (by decide)]
                  have H : Ev (fun k => (demand_Ratio.f k n v s u0 u1 a5 a6 a7 a8 a9 a10 p0 p1).bind fun bt425 => ((demand_Ratio.f k n (v + 1) s u0 u1 a5 a6 a7 a8 a9 a10 p0 p1).bind fun bt430 => ((demand_Ratio.f k n v (s + 1) u0 u1 a5 a6 a7 a8 a9 a10 p0 p1).bind fun bt435 => (if bt425.2.2 = 0 then (if bt430.2.2 = 0 then ((carrefourref02_Cmp.f k bt425.1 bt425.2.1 bt430.1 bt430.2.1).bind fun t439 => (if t439 > 0 then (carrefourlaw09_DemandGrows.j1 k true n v s u0 u1 a5 a6 a7 a8 a9 a10 p0 p1) else (if bt435.2.2 = 0 then ((carrefourref02_Cmp.f k bt435.1 bt435.2.1 bt425.1 bt425.2.1).bind fun t440 => (carrefourlaw09_DemandGrows.j1 k (decide (t440 > 0)) n v s u0 u1 a5 a6 a7 a8 a9 a10 p0 p1)) else (carrefourlaw09_DemandGrows.j1 k false n v s u0 u1 a5 a6 a7 a8 a9 a10 p0 p1)))) else (if bt435.2.2 = 0 then ((carrefourref02_Cmp.f k bt435.1 bt435.2.1 bt425.1 bt425.2.1).bind fun t441 => (carrefourlaw09_DemandGrows.j1 k (decide (t441 > 0)) n v s u0 u1 a5 a6 a7 a8 a9 a10 p0 p1)) else (carrefourlaw09_DemandGrows.j1 k false n v s u0 u1 a5 a6 a7 a8 a9 a10 p0 p1))) else (carrefourlaw09_DemandGrows.j1 k false n v s u0 u1 a5 a6 a7 a8 a9 a10 p0 p1))))) true := by
                    clear w1 w2
                    refine Ev.bind (Ratio_ev n hv hs h3 h4 hp0 hp1) (Ev.bind (Ratio_ev n hv' hs h3 h4 hp0 hp1) (Ev.bind (Ratio_ev n hv hs' h3 h4 hp0 hp1) ?_))
                    by_cases e1 : (ratS u0 u1 v s p0 p1).2.2 = 0
                    · refine Ev.itep e1 ?_
                      obtain ⟨x1, x2, _⟩ := (ratS_fine (u0 := u0) (u1 := u1) (p0 := p0) (p1 := p1) hv hs).1 e1
                      have last : Ev (fun k => if (ratS u0 u1 v (s + 1) p0 p1).2.2 = 0 then ((carrefourref02_Cmp.f k (ratS u0 u1 v (s + 1) p0 p1).1 (ratS u0 u1 v (s + 1) p0 p1).2.1 (ratS u0 u1 v s p0 p1).1 (ratS u0 u1 v s p0 p1).2.1).bind fun t440 => (carrefourlaw09_DemandGrows.j1 k (decide (t440 > 0)) n v s u0 u1 a5 a6 a7 a8 a9 a10 p0 p1)) else (carrefourlaw09_DemandGrows.j1 k false n v s u0 u1 a5 a6 a7 a8 a9 a10 p0 p1)) true := by
                        by_cases e3 : (ratS u0 u1 v (s + 1) p0 p1).2.2 = 0
                        · obtain ⟨y1, y2, _⟩ := (ratS_fine (u0 := u0) (u1 := u1) (p0 := p0) (p1 := p1) hv hs').1 e3
                          refine Ev.itep e3 (Ev.bind (rCmp_ev y1 y2 x1 x2) ?_)
                          rw [decide_eq_false (grow_s h3 h4 hp0 hp1 q1 q2 q3 q4 hs hs' q5 hv q6 e1 e3)]
                          exact j1
                        · exact Ev.iten e3 j1
                      by_cases e2 : (ratS u0 u1 (v + 1) s p0 p1).2.2 = 0
                      · obtain ⟨y1, y2, _⟩ := (ratS_fine (u0 := u0) (u1 := u1) (p0 := p0) (p1 := p1) hv' hs).1 e2
                        exact Ev.itep e2 (Ev.bind (rCmp_ev x1 x2 y1 y2) (Ev.iten (grow_v h3 h4 hp0 hp1 q1 q2 q3 q4 hs q5 hv hv' e1 e2) last))
                      · exact Ev.iten e2 last
                    · exact Ev.iten e1 j1
                  refine Ev.step (fun k => ?_) H
                  simp only [carrefourlaw09_DemandGrows.j0]
                  rw [if_neg (by decide), w1, w2]
end Go.Proofs.YtcdaedhphdmnoaaDoor.Pure
