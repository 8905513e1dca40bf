/- Decimal digits: what package carrefourref02's Digits and Print come to.
   Conditions: as each theorem's head says. -/
import Derived.Test.YtnocpmngpekceaaDoorP02w
import Derived.Lib.Bytes
namespace Go.Proofs.YtnocpmngpekceaaDoor.Pure
set_option linter.unusedVariables false
open Go.RowKit Go.Proofs.YtnocpmngpekceaaDoor.X Go.Proofs.YtnocpmngpekceaaDoorW.PrintWords Go.Proofs.YtnocpmngpekceaaDoorW.PrintLast Go.Proofs.YtnocpmngpekceaaDoorW.PrintMore

/-- The digits that stand ahead of some. -/
def digs (u : Nat) (s : List UInt8) : List UInt8 := if u = 0 then s else Lib.decDigits u ++ s
theorem digs_step {u : Nat} (h : u ≠ 0) (s : List UInt8) : digs u s = digs (u / 10) (UInt8.ofNat (48 + u % 10) :: s) := by
  unfold digs
  rw [if_neg h]
  by_cases h1 : u / 10 = 0
  · rw [if_pos h1, Lib.decDigits, dif_pos (by omega)]
    have : u % 10 = u := by omega
    rw [this]; rfl
  · rw [if_neg h1]
    conv => lhs; rw [Lib.decDigits]
    rw [dif_neg (by omega), List.append_assoc]
    rfl
theorem toList_mk (l : List UInt8) : (⟨l.toArray⟩ : ByteArray).toList = l := by
  rw [Lib.toList_data]
theorem str_one (u : Nat) (hu : u < 18446744073709551616) : strOfNums ([(IntKind.u64.wrap (48 + (Int.tmod (u : Int) 10))) % 256] : List Int) = ⟨[UInt8.ofNat (48 + u % 10)].toArray⟩ := by
  have e : (IntKind.u64.wrap (48 + (Int.tmod (u : Int) 10))) % 256 = ((48 + u % 10 : Nat) : Int) := by
    rw [Int.tmod_eq_emod_of_nonneg (by omega), u64w (by omega) (by omega)]
    omega
  rw [e]
  show (⟨(List.map (fun n : Int => UInt8.ofNat n.toNat) [((48 + u % 10 : Nat) : Int)]).toArray⟩ : ByteArray) = _
  rw [List.map_cons, List.map_nil, Int.toNat_natCast]
theorem append_mk (a b : List UInt8) : (⟨a.toArray⟩ : ByteArray) ++ ⟨b.toArray⟩ = ⟨(a ++ b).toArray⟩ := by
  apply ByteArray.ext
  simp
theorem dig_step {a : Int} {u : Nat} {s : List UInt8} {r : ByteArray} (hu : u < 18446744073709551616) (hs : s.length < 1000) (hc : s = [] ∨ u ≠ 0)
    (k : Ev (fun k => carrefourref02_Digits.l0 k a ((u / 10 : Nat) : Int) ⟨(UInt8.ofNat (48 + u % 10) :: s).toArray⟩) r) : Ev (fun k => carrefourref02_Digits.l0 k a (u : Int) ⟨s.toArray⟩) r := by
  have e : IntKind.u64.wrap (Int.tdiv (u : Int) 10) = ((u / 10 : Nat) : Int) := by
    rw [Int.tdiv_eq_ediv_of_nonneg (by omega), u64w (by omega) (by omega)]
    omega
  refine Ev.step (fun n => ?_) k
  simp only [carrefourref02_Digits.l0]
  rw [toList_mk, Option.bind_some, str_one u hu, append_mk, size_mk, size_mk, e]
  have hsz : [UInt8.ofNat (48 + u % 10)].length + s.length ≤ 9223372036854775807 := by rw [List.length_singleton]; omega
  rw [if_pos hsz]
  by_cases h : s = []
  · rw [if_pos h]; rfl
  · rw [if_neg h, if_pos (by rcases hc with hc | hc; exact absurd hc h; omega)]; rfl
theorem dig_end {a : Int} {s : List UInt8} (hs : s.length < 1000) (h0 : s ≠ []) : Ev (fun k => carrefourref02_Digits.l0 k a ((0 : Nat) : Int) ⟨s.toArray⟩) ⟨(if a < 0 then 45 :: s else s).toArray⟩ := by
  refine Ev.step (f := fun _ => some ⟨(if a < 0 then 45 :: s else s).toArray⟩) (fun n => ?_) (Ev.now _)
  simp only [carrefourref02_Digits.l0]
  rw [toList_mk, if_neg h0, if_neg (show ¬ ((0 : Nat) : Int) > 0 by omega), size_mk]
  by_cases h : a < 0
  · rw [if_pos h, if_pos h, if_pos (by omega)]
    exact congrArg some (append_mk [45] s)
  · rw [if_neg h, if_neg h]
theorem dig_loop {a : Int} (n : Nat) : ∀ (u : Nat) (s : List UInt8), u < 18446744073709551616 → u < 10 ^ n → s.length + n < 1000 → s ≠ [] →
    Ev (fun k => carrefourref02_Digits.l0 k a (u : Int) ⟨s.toArray⟩) ⟨(if a < 0 then 45 :: digs u s else digs u s).toArray⟩ := by
  induction n with
  | zero =>
    intro u s hu hn hs h0
    obtain rfl : u = 0 := by omega
    exact dig_end (by omega) h0
  | succ n ih =>
    intro u s hu hn hs h0
    by_cases h : u = 0
    · subst h; exact dig_end (by omega) h0
    · have := ih (u / 10) (UInt8.ofNat (48 + u % 10) :: s) (by omega) (by rw [Nat.pow_succ] at hn; omega) (by simp; omega) (by simp)
      rw [← digs_step h] at this
      exact dig_step hu (by omega) (.inr h) this
theorem Digits_ev {a : Int} (ha : I64 a) : Ev (fun k => carrefourref02_Digits.f k a) ⟨(Lib.itoa a).toArray⟩ := by
  have hn := nab ha
  unfold carrefourref02_Digits.f
  refine Ev.bindc (Size_f ha) ?_
  rw [ab_nat]
  have e : (⟨(Lib.itoa a).toArray⟩ : ByteArray) = ⟨(if a < 0 then 45 :: digs (a.natAbs / 10) [UInt8.ofNat (48 + a.natAbs % 10)] else digs (a.natAbs / 10) [UInt8.ofNat (48 + a.natAbs % 10)]).toArray⟩ := by
    congr 2
    have key : ∀ u : Nat, Lib.decDigits u = digs (u / 10) [UInt8.ofNat (48 + u % 10)] := by
      intro u
      unfold digs
      rw [Lib.decDigits]
      by_cases h : u < 10
      · rw [dif_pos h, if_pos (by omega)]
        have : u % 10 = u := by omega
        rw [this]
      · rw [dif_neg h, if_neg (by omega)]
    unfold Lib.itoa
    rw [key, key]
    by_cases h : a < 0
    · rw [if_pos h, if_pos h]
    · rw [if_neg h, if_neg h]
      have : a.toNat = a.natAbs := by omega
      rw [this]
  rw [e]
  exact dig_step (s := []) (by omega) (by simp) (.inl rfl) (dig_loop 20 _ _ (by omega) (by omega) (by simp) (by simp))
end Go.Proofs.YtnocpmngpekceaaDoor.Pure
