/- Fractions: the examples of chapter 2 hold; whether two answers are the same.
   Conditions: as each theorem's head says. -/
import Derived.Test.YtjgnaccamakpdaaDoorP02v
import Derived.Lib.ItoaNum
namespace Go.Proofs.YtjgnaccamakpdaaDoor.Pure
set_option linter.unusedVariables false
open Go.RowKit Go.Proofs.YtjgnaccamakpdaaDoor.X Go.Proofs.YtjgnaccamakpdaaDoorW.PrintWords Go.Proofs.YtjgnaccamakpdaaDoorW.PrintLast Go.Proofs.YtjgnaccamakpdaaDoorW.PrintMore

theorem itoa_4 : Lib.itoa 4 = [52] := by
  unfold Lib.itoa
  rw [if_neg (by decide), Lib.decDigits]
  simp
theorem itoa_15 : Lib.itoa 15 = [49, 53] := by
  unfold Lib.itoa
  rw [if_neg (by decide), Lib.decDigits]
  simp
  rw [Lib.decDigits]
  simp
theorem fmt_f {a : Int} (ha : I64 a) : strconv_FormatInt.f a 10 = some ⟨(Lib.itoa a).toArray⟩ := by
  unfold I64 at ha
  unfold strconv_FormatInt.f
  rw [if_pos ⟨rfl, by omega, by omega⟩]
theorem itoa_len (a : Int) (ha : I64 a) : (Lib.itoa a).length ≤ 30 := by
  have key : ∀ (n u : Nat), u < 10 ^ (n + 1) → (Lib.decDigits u).length ≤ n + 1 := by
    intro n
    induction n with
    | zero => intro u hu; rw [Lib.decDigits, dif_pos (by omega)]; simp
    | succ n ih =>
      intro u hu
      rw [Lib.decDigits]
      by_cases h : u < 10
      · rw [dif_pos h]; simp
      · rw [dif_neg h, List.length_append]
        have := ih (u / 10) (by rw [Nat.pow_succ] at hu; omega)
        simp; omega
  unfold I64 at ha
  unfold Lib.itoa
  split
  · have := key 19 a.natAbs (by omega)
    rw [List.length_cons]; omega
  · have := key 19 a.toNat (by omega)
    omega
theorem size_mk (l : List UInt8) : (⟨l.toArray⟩ : ByteArray).size = l.length := rfl
/-- A fraction's text. -/
def txt (a b : Int) : ByteArray := (⟨(Lib.itoa (nm a b).1).toArray⟩ ++ (⟨#[47]⟩ : ByteArray)) ++ ⟨(Lib.itoa (nm a b).2).toArray⟩
theorem Print_ev {a b : Int} (ha : I64 a) (hb : I64 b) : Ev (fun k => frac_Print.f k a b) (txt a b) := by
  obtain ⟨i1, i2, i3, _⟩ := nm_spec ha hb
  have l1 := itoa_len _ i1
  have l2 := itoa_len _ i2
  unfold frac_Print.f txt
  refine Ev.bind (norm_ev ha hb) (Ev.bindc (fmt_f i1) (Ev.itep ?_ (Ev.bindc (fmt_f i2) (Ev.itep ?_ (Ev.now _)))))
  · rw [size_mk]; omega
  · rw [ByteArray.size_append, size_mk, size_mk, size_mk]
    simp only [List.length_cons, List.length_nil]
    omega
theorem same_f (x y : Int × Int × Int) : carrefourlaw02_same.f x.1 x.2.1 x.2.2 y.1 y.2.1 y.2.2 = some (decide (x = y)) := by
  obtain ⟨a, b, c⟩ := x
  obtain ⟨d, e, f⟩ := y
  unfold carrefourlaw02_same.f
  by_cases h1 : a = d
  · by_cases h2 : b = e
    · by_cases h3 : c = f
      · simp [h1, h2, h3]
      · simp [h1, h2, h3]
    · simp [h1, h2]
  · simp [h1]
theorem awake02_ev : Ev (fun k => (carrefourlaw02_awake.f k).bind fun t => some t) true := by
  have i : ∀ z : Int, -9223372036854775808 ≤ z → z < 9223372036854775808 → I64 z := fun z h0 h1 => ⟨h0, h1⟩
  have e1 : addS 1 6 1 10 = (4, 15, 0) := by decide +kernel
  have e2 : (addS 1 4611686018427387904 1 4611686018427387903).2.2 = 2 := by decide +kernel
  have e3 : floorS (-1) 2 = -1 := by decide +kernel
  have a1 := fAdd_ev (a := 1) (b := 6) (c := 1) (d := 10) (i _ (by decide) (by decide)) (i _ (by decide) (by decide)) (i _ (by decide) (by decide)) (i _ (by decide) (by decide))
  have a2 := fAdd_ev (a := 1) (b := 4611686018427387904) (c := 1) (d := 4611686018427387903) (i _ (by decide) (by decide)) (i _ (by decide) (by decide)) (i _ (by decide) (by decide)) (i _ (by decide) (by decide))
  have a3 := fFloor_ev (a := -1) (b := 2) (i _ (by decide) (by decide)) (i _ (by decide) (by decide))
  have a4 := Print_ev (a := 4) (b := 15) (i _ (by decide) (by decide)) (i _ (by decide) (by decide))
  have e4 : txt 4 15 = ⟨#[52, 47, 49, 53]⟩ := by
    unfold txt
    rw [nm_of (by decide), itoa_4, itoa_15]
    rfl
  rw [e1] at a1
  rw [e3] at a3
  rw [e4] at a4
  refine Ev.bind (a := true) ?_ (Ev.now _)
  unfold carrefourlaw02_awake.f
  refine Ev.bind a1 (Ev.bind a2 (Ev.itep rfl (Ev.itep (by decide) (Ev.itep e2 (Ev.bind a3 (Ev.itep rfl (Ev.bind a4 ?_)))))))
  have e5 : ((⟨#[52, 47, 49, 53]⟩ : ByteArray).toList == ([52, 47, 49, 53] : List UInt8)) = true := by decide +kernel
  rw [e5]
  exact Ev.now _
end Go.Proofs.YtjgnaccamakpdaaDoor.Pure
