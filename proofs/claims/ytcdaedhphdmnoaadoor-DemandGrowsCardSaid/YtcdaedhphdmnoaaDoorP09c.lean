/- Flow ratios as quotients: what a ratio is, times what it is of.
   Conditions: as each theorem's head says. -/
import Derived.Test.YtcdaedhphdmnoaaDoorP09a
import Derived.Test.YtcdaedhphdmnoaaDoorP02v
namespace Go.Proofs.YtcdaedhphdmnoaaDoor.Pure
set_option linter.unusedVariables false
open Go.RowKit Go.Proofs.YtcdaedhphdmnoaaDoor.X Go.Proofs.YtcdaedhphdmnoaaDoorW.PrintWords Go.Proofs.YtcdaedhphdmnoaaDoorW.PrintLast Go.Proofs.YtcdaedhphdmnoaaDoorW.PrintMore

theorem rt_one (v : Int) : rt v 1 := by
  refine ⟨Int.le_refl _, ?_⟩
  unfold gg
  first | exact Nat.gcd_one_right _ | simp
theorem nm_v1 (v : Int) : nm v 1 = (v, 1) := nm_of (rt_one v)
/-- A quotient by a fraction that is not 0. -/
theorem divS_spec {a b c d : Int} (ha : I64 a) (hb : I64 b) (hc : I64 c) (hd : I64 d) (h1 : rt a b) (h2 : rt c d) (h : (divS a b c d).2.2 = 0) :
    c ≠ 0 ∧ (divS a b c d).1 * (b * c) = (a * d) * (divS a b c d).2.1 := by
  unfold divS at h ⊢
  rw [nm_of h1, nm_of h2] at h ⊢
  simp only at h ⊢
  have hb1 := h1.1
  split at h
  · exact absurd h (by decide)
  · rename_i hc0
    rw [if_neg hc0]
    refine ⟨hc0, ?_⟩
    have hne := Int.mul_ne_zero (show b ≠ 0 by omega) hc0
    obtain ⟨_, _, _, he⟩ := lowZ_fits (by omega) h
    by_cases hs : c < 0
    · rw [if_pos hs] at he ⊢
      have hneg : b * c < 0 := Int.mul_neg_of_pos_of_neg (by omega) hs
      have e : (((b * c).natAbs : Nat) : Int) = -(b * c) := by omega
      rw [e] at he
      have h3 := he
      rw [Int.mul_neg, Int.neg_mul] at h3
      omega
    · rw [if_neg hs] at he ⊢
      have hpos : 0 < b * c := Int.mul_pos (by omega) (by omega)
      have e : (((b * c).natAbs : Nat) : Int) = b * c := by omega
      rw [e] at he
      exact he
theorem mulS_spec {a b v : Int} (ha : I64 a) (hb : I64 b) (h1 : rt a b) (h : (mulS a b v 1).2.2 = 0) : (mulS a b v 1).1 * b = (a * v) * (mulS a b v 1).2.1 := by
  unfold mulS at h ⊢
  rw [nm_of h1, nm_v1] at h ⊢
  simp only [Int.mul_one] at h ⊢
  have hb1 := h1.1
  obtain ⟨_, _, _, he⟩ := lowZ_fits (by omega) h
  have e : ((b.natAbs : Nat) : Int) = b := by omega
  rw [e] at he
  exact he
/-- What a ratio is: a.1 / a.2 = v f / (s p), the use f, the peak p. -/
theorem rat_spec {u0 u1 v s p0 p1 : Int} (hv : I64 v) (hs : I64 s) (h : (ratS u0 u1 v s p0 p1).2.2 = 0) :
    (ofS u0 u1).2.2 = 0 ∧ (ofS p0 p1).2.2 = 0 ∧ (ofS p0 p1).1 ≠ 0 ∧ s ≠ 0 ∧ (ratS u0 u1 v s p0 p1).1 * (s * (ofS p0 p1).1 * (ofS u0 u1).2.1) = (ratS u0 u1 v s p0 p1).2.1 * ((ofS u0 u1).1 * v * (ofS p0 p1).2.1) := by
  have hvol : (volS u0 u1 v p0 p1).2.2 = 0 := by
    unfold ratS at h
    split at h
    · assumption
    · exact h
  obtain ⟨w1i, w2i, wr⟩ := (volS_fine (u0 := u0) (u1 := u1) (p0 := p0) (p1 := p1) hv).1 hvol
  have eR : ratS u0 u1 v s p0 p1 = divS (volS u0 u1 v p0 p1).1 (volS u0 u1 v p0 p1).2.1 s 1 := by unfold ratS; rw [if_pos hvol]
  rw [eR] at h ⊢
  obtain ⟨s0, e1⟩ := divS_spec w1i w2i hs i64_one wr (rt_one s) h
  rw [Int.mul_one] at e1
  have hf : (ofS u0 u1).2.2 = 0 := by
    unfold volS at hvol
    split at hvol
    · assumption
    · exact hvol
  obtain ⟨f1i, f2i, fr⟩ := (ofS_fine u0 u1).1 hf
  have hm : (mulS (ofS u0 u1).1 (ofS u0 u1).2.1 v 1).2.2 = 0 := by
    unfold volS at hvol
    rw [if_pos hf] at hvol
    split at hvol
    · assumption
    · exact hvol
  obtain ⟨m1i, m2i, mr⟩ := (mulS_fine f1i f2i hv i64_one).1 hm
  have hc : (ofS p0 p1).2.2 = 0 := by
    unfold volS at hvol
    rw [if_pos hf, if_pos hm] at hvol
    split at hvol
    · assumption
    · exact hvol
  obtain ⟨c1i, c2i, cr⟩ := (ofS_fine p0 p1).1 hc
  have eV : volS u0 u1 v p0 p1 = divS (mulS (ofS u0 u1).1 (ofS u0 u1).2.1 v 1).1 (mulS (ofS u0 u1).1 (ofS u0 u1).2.1 v 1).2.1 (ofS p0 p1).1 (ofS p0 p1).2.1 := by
    unfold volS; rw [if_pos hf, if_pos hm, if_pos hc]
  have hvol' := hvol
  rw [eV] at hvol'
  obtain ⟨c0, e2⟩ := divS_spec m1i m2i c1i c2i mr cr hvol'
  have e3 := mulS_spec f1i f2i fr hm
  rw [← eV] at e2
  refine ⟨hf, hc, c0, s0, ?_⟩
  have w2p := wr.1
  have m2p := mr.1
  generalize (divS (volS u0 u1 v p0 p1).1 (volS u0 u1 v p0 p1).2.1 s 1).1 = a1 at *
  generalize (divS (volS u0 u1 v p0 p1).1 (volS u0 u1 v p0 p1).2.1 s 1).2.1 = a2 at *
  generalize (volS u0 u1 v p0 p1).1 = w1 at *
  generalize (volS u0 u1 v p0 p1).2.1 = w2 at *
  generalize (mulS (ofS u0 u1).1 (ofS u0 u1).2.1 v 1).1 = m1 at *
  generalize (mulS (ofS u0 u1).1 (ofS u0 u1).2.1 v 1).2.1 = m2 at *
  generalize (ofS u0 u1).1 = f1 at *
  generalize (ofS u0 u1).2.1 = f2 at *
  generalize (ofS p0 p1).1 = c1 at *
  generalize (ofS p0 p1).2.1 = c2 at *
  have k : (w2 * m2) * (a1 * (s * c1 * f2)) = (w2 * m2) * (a2 * (f1 * v * c2)) := by
    clear h hvol hvol' hf hm hc eR eV w1i w2i wr f1i f2i fr m1i m2i mr c1i c2i cr w2p m2p hv hs
    grind
  exact Int.eq_of_mul_eq_mul_left (Int.mul_ne_zero (by omega) (by omega)) k
/-- Ratios of two volumes (flows) that are in a row. -/
theorem cross_le {a1 a2 b1 b2 K L X Y : Int} (ha : 1 ≤ a2) (hb : 1 ≤ b2) (hK : 0 < K) (hL : 0 < L) (ea : a1 * K = a2 * X) (eb : b1 * L = b2 * Y) (h : X * L ≤ Y * K) : a1 * b2 ≤ b1 * a2 := by
  have e1 : (a1 * b2) * (K * L) = (a2 * b2) * (X * L) := by grind
  have e2 : (b1 * a2) * (K * L) = (a2 * b2) * (Y * K) := by grind
  have hp : 0 ≤ a2 * b2 := Int.mul_nonneg (by omega) (by omega)
  have hle : (a1 * b2) * (K * L) ≤ (b1 * a2) * (K * L) := by
    rw [e1, e2]; exact Int.mul_le_mul_of_nonneg_left h hp
  exact Int.le_of_mul_le_mul_right hle (Int.mul_pos hK hL)
end Go.Proofs.YtcdaedhphdmnoaaDoor.Pure
