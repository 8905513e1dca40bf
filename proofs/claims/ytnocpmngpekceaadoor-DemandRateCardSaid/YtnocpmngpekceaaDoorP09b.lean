/- Fractions in decimal digits: what the printed functions demand.Rate and carrefourref09.Rate come to.
   Conditions: as each theorem's head says. -/
import Derived.Test.YtnocpmngpekceaaDoorP09a
import Derived.Test.YtnocpmngpekceaaDoorP02u
import Derived.Test.YtnocpmngpekceaaDoorP02y
import Derived.Lib.Repeat
namespace Go.Proofs.YtnocpmngpekceaaDoor.Pure
set_option linter.unusedVariables false
open Go.RowKit Go.Proofs.YtnocpmngpekceaaDoor.X Go.Proofs.YtnocpmngpekceaaDoorW.PrintWords Go.Proofs.YtnocpmngpekceaaDoorW.PrintLast Go.Proofs.YtnocpmngpekceaaDoorW.PrintMore

/-! ### the text -/
def pad (p : Nat) (s : List UInt8) : List UInt8 := List.replicate (p + 1 - s.length) 48 ++ s
theorem pad_len (p : Nat) (s : List UInt8) : (pad p s).length = max (p + 1) s.length := by unfold pad; rw [List.length_append, List.length_replicate]; omega
def fin (p : Nat) (b : ByteArray) : ByteArray × Int := if p = 0 then (b, 0) else ((b.extract 0 (b.size - p) ++ (⟨#[46]⟩ : ByteArray)) ++ b.extract (b.size - p) b.size, 0)
theorem cut_f {p : Nat} {b : ByteArray} (hp : p ≤ 9) (hb : p < b.size) (hb2 : b.size ≤ 1000) :
    (if (p : Int) = 0 then (some (b, (0 : Int))) else (if 0 ≤ (wrap64 ((b.size : Int) - (p : Int))) then (if (wrap64 ((b.size : Int) - (p : Int))) ≤ (b.size : Int) then (if (b.extract 0 ((wrap64 ((b.size : Int) - (p : Int))) : Int).toNat).size + 1 ≤ 9223372036854775807 then (if ((b.extract 0 ((wrap64 ((b.size : Int) - (p : Int))) : Int).toNat) ++ (⟨#[46]⟩ : ByteArray)).size + (b.extract ((wrap64 ((b.size : Int) - (p : Int))) : Int).toNat b.size).size ≤ 9223372036854775807 then (some (((b.extract 0 ((wrap64 ((b.size : Int) - (p : Int))) : Int).toNat) ++ (⟨#[46]⟩ : ByteArray)) ++ (b.extract ((wrap64 ((b.size : Int) - (p : Int))) : Int).toNat b.size), 0)) else (none)) else (none)) else (none)) else (none))) = some (fin p b) := by
  have hw : wrap64 ((b.size : Int) - (p : Int)) = ((b.size - p : Nat) : Int) := by rw [w64 (by omega) (by omega)]; omega
  unfold fin
  by_cases h : p = 0
  · subst h
    rw [if_pos (show ((0 : Nat) : Int) = 0 from rfl), if_pos rfl]
  · rw [if_neg (by omega), if_neg h, hw]
    clear hw
    have e1 : (b.extract 0 (b.size - p)).size ≤ b.size := by rw [ByteArray.size_extract]; omega
    have e2 : (b.extract (b.size - p) b.size).size ≤ b.size := by rw [ByteArray.size_extract]; omega
    rw [if_pos (by omega), if_pos (by omega), Int.toNat_natCast, if_pos (by omega), if_pos]
    rw [ByteArray.size_append]
    have e3 : (⟨#[46]⟩ : ByteArray).size = 1 := rfl
    omega
theorem repeat_one (n : Nat) : Lib.repeatL [48] n = List.replicate n 48 := by
  induction n with
  | zero => rfl
  | succ n ih => rw [Lib.repeatL, ih, List.replicate_succ]; rfl
theorem j2_ev {p : Nat} {n : Int} (hp : p ≤ 9) (hn : I64 n) : Ev (fun k => demand_Rate.j2 k (p : Int) n) (fin p ⟨(pad p (Lib.itoa n)).toArray⟩) := by
  have hl := itoa_len n hn
  generalize hs : Lib.itoa n = s at *
  have hf : strconv_FormatInt.f n 10 = some ⟨s.toArray⟩ := by rw [fmt_f hn, hs]
  refine Ev.step (f := fun _ => some (fin p ⟨(pad p s).toArray⟩)) (fun k => ?_) (Ev.now _)
  simp only [demand_Rate.j2]
  rw [hf, Option.bind_some]
  have hsz : (⟨s.toArray⟩ : ByteArray).size = s.length := rfl
  have hpl := pad_len p s
  by_cases h : s.length ≤ p
  · have g : ((⟨s.toArray⟩ : ByteArray).size : Int) ≤ (p : Int) := by rw [hsz]; omega
    rw [if_pos g]
    have hw1 : wrap64 ((p : Int) + 1) = ((p + 1 : Nat) : Int) := by rw [w64 (by omega) (by omega)]; rfl
    have hw2 : wrap64 (((p + 1 : Nat) : Int) - ((⟨s.toArray⟩ : ByteArray).size : Int)) = ((p + 1 - s.length : Nat) : Int) := by
      clear hw1
      rw [hsz, w64 (by omega) (by omega)]; omega
    have hr : strings_Repeat.f (⟨#[48]⟩ : ByteArray) ((p + 1 - s.length : Nat) : Int) = some ⟨(List.replicate (p + 1 - s.length) 48).toArray⟩ := by
      clear hw1 hw2
      unfold strings_Repeat.f
      have e : (⟨#[48]⟩ : ByteArray).size = 1 := rfl
      rw [if_pos ⟨by omega, by omega, by rw [e]; omega⟩, Int.toNat_natCast]
      show some (⟨(Lib.repeatL [48] (p + 1 - s.length)).toArray⟩ : ByteArray) = _
      rw [repeat_one]
    rw [hw1, hw2, hr, Option.bind_some]
    clear hw1 hw2 hr
    have ea : (⟨(List.replicate (p + 1 - s.length) (48 : UInt8)).toArray⟩ : ByteArray) ++ ⟨s.toArray⟩ = ⟨(pad p s).toArray⟩ := append_mk _ _
    have es : (⟨(List.replicate (p + 1 - s.length) (48 : UInt8)).toArray⟩ : ByteArray).size = p + 1 - s.length := by
      show (List.replicate (p + 1 - s.length) (48 : UInt8)).toArray.size = _
      simp
    rw [ea, if_pos (by rw [es, hsz]; omega)]
    have hq : (⟨(pad p s).toArray⟩ : ByteArray).size = (pad p s).length := rfl
    exact cut_f hp (by rw [hq]; omega) (by rw [hq]; omega)
  · have g : ¬ ((⟨s.toArray⟩ : ByteArray).size : Int) ≤ (p : Int) := by rw [hsz]; omega
    rw [if_neg g]
    have ep : pad p s = s := by unfold pad; rw [show p + 1 - s.length = 0 by omega]; rfl
    rw [ep]
    exact cut_f hp (by rw [hsz]; omega) (by rw [hsz]; omega)
theorem l1_ev {p : Nat} (hp : p ≤ 9) (d : Nat) : ∀ s : List UInt8, s.length ≤ 100 → p + 1 - s.length = d → Ev (fun k => carrefourref09_Rate.l1 k (p : Int) ⟨s.toArray⟩) (fin p ⟨(pad p s).toArray⟩) := by
  induction d with
  | zero =>
    intro s hl hd
    have hsz : (⟨s.toArray⟩ : ByteArray).size = s.length := rfl
    have g : ¬ ((⟨s.toArray⟩ : ByteArray).size : Int) ≤ (p : Int) := by rw [hsz]; omega
    have ep : pad p s = s := by unfold pad; rw [hd]; rfl
    rw [ep]
    refine Ev.step (f := fun _ => some (fin p ⟨s.toArray⟩)) (fun k => ?_) (Ev.now _)
    simp only [carrefourref09_Rate.l1]
    rw [if_neg g]
    exact cut_f hp (by rw [hsz]; omega) (by rw [hsz]; omega)
  | succ d ih =>
    intro s hl hd
    have hsz : (⟨s.toArray⟩ : ByteArray).size = s.length := rfl
    have g : ((⟨s.toArray⟩ : ByteArray).size : Int) ≤ (p : Int) := by rw [hsz]; omega
    have ea : (⟨#[48]⟩ : ByteArray) ++ ⟨s.toArray⟩ = ⟨(48 :: s).toArray⟩ := append_mk [48] s
    have ep : pad p (48 :: s) = pad p s := by
      unfold pad
      rw [show p + 1 - s.length = (p + 1 - (48 :: s : List UInt8).length) + 1 by simp; omega, List.replicate_succ', List.append_assoc]
      rfl
    have H := ih (48 :: s) (by simp; omega) (by simp; omega)
    rw [ep] at H
    refine Ev.step (fun k => ?_) H
    simp only [carrefourref09_Rate.l1]
    rw [if_pos g, if_pos (by rw [hsz]; omega), ea]
theorem rj2_ev {p : Nat} {n : Int} (hp : p ≤ 9) (hn : I64 n) : Ev (fun k => carrefourref09_Rate.j2 k (p : Int) n) (fin p ⟨(pad p (Lib.itoa n)).toArray⟩) := by
  have hl := itoa_len n hn
  have H : Ev (fun k => (carrefourref02_Digits.f k n).bind fun t292 => (carrefourref09_Rate.l1 k (p : Int) t292)) (fin p ⟨(pad p (Lib.itoa n)).toArray⟩) := Ev.bind (Digits_ev hn) (l1_ev hp _ _ (by omega) rfl)
  refine Ev.step (fun k => ?_) H
  simp only [carrefourref09_Rate.j2]
/-! ### the reference's trim -/
theorem trim9_loop {a : List Int} {x : Int} (ha : Num a x) (hl : a.length < 50000) (n : Nat) : n ≤ a.length → W a n = 0 → ∃ r, Ev (fun k => carrefourref09_trim.l0 k a (n : Int)) r ∧ Num r x ∧ r.length ≤ a.length := by
  have fin : ∀ n : Nat, n ≤ a.length → W a n = 0 → Num (a.take n) x ∧ (a.take n).length ≤ a.length := by
    intro n hn hw
    refine ⟨⟨ha.good.take n, ?_⟩, by simp; omega⟩
    have := V_split a n hn
    rw [hw, Int.mul_zero, Int.add_zero] at this
    rw [← this, ha.val]
  induction n with
  | zero =>
    intro hn hw
    refine ⟨a.take 0, Ev.step (f := fun _ => some (a.take 0)) (fun k => ?_) (Ev.now _), fin 0 hn hw⟩
    simp only [carrefourref09_trim.l0]
    rw [if_neg (by omega), if_pos (by omega), if_pos (by omega), Int.toNat_natCast]
  | succ n ih =>
    intro hn hw
    have e : wrap64 (((n + 1 : Nat) : Int) - 1) = (n : Int) := by rw [w64 (by omega) (by omega)]; omega
    have g1 : ((n + 1 : Nat) : Int) > 0 := by clear e; omega
    have g2 : (0 : Int) ≤ (n : Int) := by clear e; omega
    have g3 : (n : Int) < (a.length : Int) := by clear e; omega
    have g4 : ((n + 1 : Nat) : Int) ≤ (a.length : Int) := by clear e; omega
    by_cases h0 : dg a n = 0
    · obtain ⟨r, hr, h⟩ := ih (by clear e; omega) (by rw [W_step, h0, hw]; rfl)
      refine ⟨r, Ev.step (fun k => ?_) hr, h⟩
      simp only [carrefourref09_trim.l0]
      rw [e, if_pos g1, if_pos g2, if_pos g3, rd_dg, if_pos h0]
    · refine ⟨a.take (n + 1), Ev.step (f := fun _ => some (a.take (n + 1))) (fun k => ?_) (Ev.now _), fin (n + 1) hn hw⟩
      simp only [carrefourref09_trim.l0]
      rw [e, if_pos g1, if_pos g2, if_pos g3, rd_dg, if_neg h0, if_pos (Int.natCast_nonneg _), if_pos g4, Int.toNat_natCast]
theorem trim9_ev {a : List Int} {x : Int} (ha : Num a x) (hl : a.length < 50000) : ∃ r, Ev (fun k => carrefourref09_trim.f k a) r ∧ Num r x ∧ r.length ≤ a.length := by
  obtain ⟨r, hr, h⟩ := trim9_loop ha hl a.length (Nat.le_refl _) (W_past (Nat.le_refl _))
  exact ⟨r, hr, h⟩
/-! ### the last digit -/
/-- What is told: the quotient's digits, rounded. -/
def rateS (p : Nat) (num den : Int) : ByteArray × Int :=
  if (scaled num (10 ^ p) den).2 = 0 then (if den ≤ 2 * (num * 10 ^ p - (scaled num (10 ^ p) den).1 * den) then (if (scaled num (10 ^ p) den).1 = 9223372036854775807 then (⟨#[]⟩, 2) else fin p ⟨(pad p (Lib.itoa ((scaled num (10 ^ p) den).1 + 1))).toArray⟩) else fin p ⟨(pad p (Lib.itoa (scaled num (10 ^ p) den).1)).toArray⟩) else (⟨#[]⟩, (scaled num (10 ^ p) den).2)
theorem ten_bd {p : Nat} (hp : p ≤ 9) : 1 ≤ (10 : Int) ^ p ∧ (10 : Int) ^ p ≤ 1000000000 := by
  have : p = 0 ∨ p = 1 ∨ p = 2 ∨ p = 3 ∨ p = 4 ∨ p = 5 ∨ p = 6 ∨ p = 7 ∨ p = 8 ∨ p = 9 := by omega
  rcases this with rfl | rfl | rfl | rfl | rfl | rfl | rfl | rfl | rfl | rfl <;> decide
theorem ten_up {i : Nat} (hi : i + 1 ≤ 9) : wrap64 ((10 : Int) ^ i * 10) = 10 ^ (i + 1) := by
  have := ten_bd hi
  rw [← Int.pow_succ]
  exact w64 (by omega) (by omega)
theorem quot_spec {num den T : Int} (h0 : 0 ≤ num) (hd : 1 ≤ den) (hT : 1 ≤ T) (h : (scaled num T den).2 = 0) : (scaled num T den).1 = num * T / den ∧ 0 ≤ num * T / den ∧ num * T / den < 9223372036854775808 := by
  have hq : 0 ≤ num * T / den := Int.ediv_nonneg (Int.mul_nonneg h0 (by omega)) (by omega)
  unfold scaled fit at h ⊢
  rw [if_neg (by omega)] at h ⊢
  split at h
  · rename_i hr
    rw [if_pos hr]
    exact ⟨rfl, hq, hr.2⟩
  · exact absurd h (by decide)
theorem n128_f {a b : Int} (ha : 0 ≤ a) (ha' : a < 9223372036854775808) (hb : 0 ≤ b) (hb' : b < 9223372036854775808) : demand_new128.f a b = some (hw (a * b).toNat, lw (a * b).toNat) := by
  unfold demand_new128.f
  have hm := Int.mul_nonneg ha hb
  rw [u64w ha (by omega), u64w hb (by omega), mul64 ⟨ha, by omega⟩ ⟨hb, by omega⟩, Option.bind_some]
  unfold hw lw
  obtain ⟨m, hm'⟩ := Int.eq_ofNat_of_zero_le hm
  rw [hm', Int.toNat_natCast]
  rfl
theorem less_f {P Q : Nat} (h : Q ≤ P) (hP : M128 P) : demand_long_less.f (hw P) (lw P) (hw Q) (lw Q) = some (hw (P - Q), lw (P - Q)) := by
  unfold demand_long_less.f
  rw [sub_lo h, Option.bind_some]
  by_cases c : P % 18446744073709551616 < Q % 18446744073709551616
  · obtain ⟨x, hx⟩ := sub_hi1 hP h c
    simp only [if_pos c]
    rw [hx, Option.bind_some]
  · obtain ⟨x, hx⟩ := sub_hi0 hP h c
    simp only [if_neg c]
    rw [hx, Option.bind_some]
theorem last_ev {p : Nat} {num den : Int} (hp : p ≤ 9) (h0 : 0 ≤ num) (hn : I64 num) (hd : 1 ≤ den) (hd' : I64 den) : Ev (fun k => demand_Rate.l0 k (p : Int) (10 ^ p) (p : Int) (p : Int) num den) (rateS p num den) := by
  obtain ⟨t1, t2⟩ := ten_bd hp
  have hT : I64 (10 ^ p) := ⟨by omega, by omega⟩
  have H : Ev (fun k => (whole_Scale.f k num (10 ^ p) den).bind fun bt144 => (if bt144.2 = 0 then ((demand_new128.f num (10 ^ p)).bind fun bt146 => ((demand_new128.f bt144.1 den).bind fun bt148 => ((demand_long_less.f bt146.1 bt146.2 bt148.1 bt148.2).bind fun bt150 => ((demand_long_twice.f bt150.1 bt150.2).bind fun bt153 => ((demand_long_atLeast.f bt153.1 bt153.2 den).bind fun t155 => (if t155 = true then ((whole_Add.f bt144.1 1).bind fun bt156 => (if bt156.2 = 0 then (demand_Rate.j2 k (p : Int) bt156.1) else (some ((⟨#[]⟩ : ByteArray), bt156.2)))) else (demand_Rate.j2 k (p : Int) bt144.1))))))) else (some ((⟨#[]⟩ : ByteArray), bt144.2)))) (rateS p num den) := by
    refine Ev.bind (Scale_ev hn hT hd') ?_
    unfold rateS
    by_cases h : (scaled num (10 ^ p) den).2 = 0
    · rw [if_pos h]
      refine Ev.itep h ?_
      obtain ⟨e, q0, q1⟩ := quot_spec h0 hd t1 h
      rw [e]
      have r0 := Int.emod_nonneg (num * 10 ^ p) (show den ≠ 0 by omega)
      have r1 := Int.emod_lt_of_pos (num * 10 ^ p) (show 0 < den by omega)
      have r2 := Int.emod_def (num * 10 ^ p) den
      have hP0 : 0 ≤ num * 10 ^ p := Int.mul_nonneg h0 (by omega)
      have hPm : num * 10 ^ p ≤ 9223372036854775808 * 1000000000 := Int.mul_le_mul (by have := hn.2; omega) t2 (by omega) (by decide)
      rw [Int.mul_comm den] at r2
      generalize hq : num * 10 ^ p / den = q at *
      have hQ0 : 0 ≤ q * den := Int.mul_nonneg q0 (by omega)
      refine Ev.bindc (n128_f h0 (by have := hn.2; omega) (by omega) (by omega)) (Ev.bindc (n128_f q0 (by omega) (by omega) (by have := hd'.2; omega)) ?_)
      generalize hP : num * 10 ^ p = P at *
      generalize hQ : q * den = Q at *
      obtain ⟨P', rfl⟩ := Int.eq_ofNat_of_zero_le hP0
      obtain ⟨Q', rfl⟩ := Int.eq_ofNat_of_zero_le hQ0
      rw [Int.toNat_natCast, Int.toNat_natCast]
      have hle : Q' ≤ P' := by omega
      have hd2 := hd'.2
      have hrest : P' - Q' < 9223372036854775808 := by omega
      have e1 : hw (P' - Q') = 0 := by unfold hw; omega
      have e2 : lw (P' - Q') = ((P' - Q' : Nat) : Int) := by unfold lw; omega
      refine Ev.bindc (less_f hle (by unfold M128; omega)) ?_
      have htw : demand_long_twice.f (hw (P' - Q')) (lw (P' - Q')) = some (0, 2 * ((P' - Q' : Nat) : Int)) := by
        unfold demand_long_twice.f
        rw [e1, e2]
        have f1 : ((P' - Q' : Nat) : Int) / 9223372036854775808 = 0 := by omega
        have f2 : IntKind.u64.wrap (((P' - Q' : Nat) : Int) * 2) = 2 * ((P' - Q' : Nat) : Int) := by rw [u64w (by omega) (by omega)]; omega
        rw [f1, f2]
        rfl
      have hal : demand_long_atLeast.f 0 (2 * ((P' - Q' : Nat) : Int)) den = some (decide (den ≤ 2 * ((P' : Int) - (Q' : Int)))) := by
        unfold demand_long_atLeast.f
        rw [if_neg (by decide), u64w (by omega) (by omega)]
        congr 1
        rw [decide_eq_decide]
        omega
      refine Ev.bindc htw (Ev.bindc hal ?_)
      clear htw hal e1 e2
      by_cases hc : den ≤ 2 * ((P' : Int) - (Q' : Int))
      · rw [if_pos hc]
        refine Ev.itep (decide_eq_true hc) (Ev.bindc (Add_f ⟨by omega, by omega⟩ ⟨by decide, by decide⟩) ?_)
        by_cases hm : q = 9223372036854775807
        · rw [if_pos hm]
          have : fit (q + 1) = (0, 2) := by rw [hm]; rfl
          rw [this]
          exact Ev.iten (by decide) (Ev.now _)
        · rw [if_neg hm]
          have : fit (q + 1) = (q + 1, 0) := by unfold fit; rw [if_pos ⟨by omega, by omega⟩]
          rw [this]
          exact Ev.itep rfl (j2_ev hp ⟨by omega, by omega⟩)
      · rw [if_neg hc]
        exact Ev.iten (by simpa using hc) (j2_ev hp ⟨by omega, by omega⟩)
    · rw [if_neg h]
      exact Ev.iten h (Ev.now _)
  refine Ev.step (fun k => ?_) H
  simp only [demand_Rate.l0]
  rw [if_neg (by omega)]
theorem up_ev {p : Nat} {num den : Int} {r : ByteArray × Int} (hp : p ≤ 9) (K : Ev (fun k => demand_Rate.l0 k (p : Int) (10 ^ p) (p : Int) (p : Int) num den) r) (d : Nat) : ∀ i : Nat, p = i + d → Ev (fun k => demand_Rate.l0 k (p : Int) (10 ^ i) (p : Int) (i : Int) num den) r := by
  induction d with
  | zero => intro i hi; obtain rfl : p = i := by omega
            exact K
  | succ d ih =>
    intro i hi
    have g : (i : Int) < (p : Int) := by omega
    have hj : wrap64 ((i : Int) + 1) = ((i + 1 : Nat) : Int) := by rw [w64 (by omega) (by omega)]; rfl
    have ht := ten_up (i := i) (by clear hj; omega)
    refine Ev.step (fun k => ?_) (ih (i + 1) (by clear hj ht; omega))
    simp only [demand_Rate.l0]
    rw [if_pos g, hj, ht]
/-- What a fraction is in decimal digits. -/
def rateZ (num den places : Int) : ByteArray × Int := if 0 ≤ places ∧ places ≤ 9 ∧ rt num den ∧ 0 ≤ num then rateS places.toNat num den else (⟨#[]⟩, 1)
theorem Rate_ev {num den places : Int} (hn : I64 num) (hd : I64 den) : Ev (fun k => demand_Rate.f k num den places) (rateZ num den places) := by
  unfold demand_Rate.f rateZ
  have out : Ev (fun k => demand_Rate.j0 k places true num den) (⟨#[]⟩, 1) := by
    refine Ev.step (f := fun _ => some (⟨#[]⟩, 1)) (fun k => ?_) (Ev.now _)
    simp only [demand_Rate.j0]
    rw [if_pos trivial]
  by_cases a : places < 0
  · rw [if_neg (by omega)]; exact Ev.itep a out
  · refine Ev.iten a ?_
    by_cases b : places > 9
    · rw [if_neg (by omega)]; exact Ev.itep b out
    · refine Ev.iten b (Ev.bind (Right_ev hn hd) ?_)
      by_cases c : rt num den
      · refine Ev.itep (decide_eq_true c) ?_
        by_cases e : num < 0
        · rw [if_neg (by omega), decide_eq_true e]; exact out
        · rw [if_pos ⟨by omega, by omega, c, by omega⟩, decide_eq_false e]
          obtain ⟨p, rfl⟩ := Int.eq_ofNat_of_zero_le (Int.not_lt.1 a)
          rw [Int.toNat_natCast]
          have := up_ev (p := p) (by omega) (last_ev (by omega) (Int.not_lt.1 e) hn c.1 hd) p 0 (by omega)
          refine Ev.step (fun k => ?_) this
          simp only [demand_Rate.j0]
          rw [if_neg (by decide)]
          rfl
      · rw [if_neg (fun h => c h.2.2.1)]
        exact Ev.iten (by simpa using c) out
theorem rlast_ev {p : Nat} {num den : Int} (hp : p ≤ 9) (h0 : 0 ≤ num) (hn : I64 num) (hd : 1 ≤ den) (hd' : I64 den) : Ev (fun k => carrefourref09_Rate.l0 k (p : Int) (10 ^ p) (p : Int) num den) (rateS p num den) := by
  obtain ⟨t1, t2⟩ := ten_bd hp
  have hT : I64 (10 ^ p) := ⟨by omega, by omega⟩
  have hn2 := hn.2
  have hd2 := hd'.2
  have H : Ev (fun k => (carrefourref01_Scale.f k num (10 ^ p) den).bind fun bt271 => (if bt271.2 = 0 then ((carrefourref01_Times.f k (IntKind.u64.wrap num) (IntKind.u64.wrap (10 ^ p))).bind fun t273 => ((carrefourref01_Times.f k (IntKind.u64.wrap (bt271.1)) (IntKind.u64.wrap den)).bind fun t276 => ((carrefourref09_trim.f k t276).bind fun t279 => ((carrefourref01_Minus.f k t273 t279).bind fun t282 => ((carrefourref01_Plus.f k t282 t282).bind fun t285 => ((carrefourref01_Parts.f k (IntKind.u64.wrap den)).bind fun t288 => ((carrefourref01_Order.f k t285 t288).bind fun t291 => (if t291 ≥ 0 then (if bt271.1 = 9223372036854775807 then (some ((⟨#[]⟩ : ByteArray), 2)) else (carrefourref09_Rate.j2 k (p : Int) (wrap64 (bt271.1 + 1)))) else (carrefourref09_Rate.j2 k (p : Int) bt271.1))))))))) else (some ((⟨#[]⟩ : ByteArray), bt271.2)))) (rateS p num den) := by
    refine Ev.bind (rScale_ev hn hT hd') ?_
    unfold rateS
    by_cases h : (scaled num (10 ^ p) den).2 = 0
    · rw [if_pos h]
      refine Ev.itep h ?_
      obtain ⟨e, q0, q1⟩ := quot_spec h0 hd t1 h
      rw [e]
      have r0 := Int.emod_nonneg (num * 10 ^ p) (show den ≠ 0 by omega)
      have r2 := Int.emod_def (num * 10 ^ p) den
      rw [Int.mul_comm den] at r2
      generalize hq : num * 10 ^ p / den = q at *
      rw [u64w h0 (by omega), u64w (by omega) (by omega), u64w q0 (by omega), u64w (by omega) (by omega)]
      obtain ⟨x1, e1, n1, l1⟩ := times_ev num (10 ^ p) ⟨h0, by omega⟩ ⟨by omega, by omega⟩
      obtain ⟨x2, e2, n2, l2⟩ := times_ev q den ⟨q0, by omega⟩ ⟨by omega, by omega⟩
      obtain ⟨x3, e3, n3, l3⟩ := trim9_ev n2 (by omega)
      obtain ⟨x4, e4, n4, l4⟩ := minus_ev n1 n3 (by omega) (by omega)
      obtain ⟨x5, e5, n5, l5, _⟩ := plus_ev n4 n4 (by omega) (by omega)
      obtain ⟨x6, e6, n6, l6⟩ := parts_ev den ⟨by omega, by omega⟩
      refine Ev.bind e1 (Ev.bind e2 (Ev.bind e3 (Ev.bind e4 (Ev.bind e5 (Ev.bind e6 (Ev.bind (order_ev n5 n6 (by omega) (by omega)) ?_))))))
      by_cases hc : den ≤ 2 * (num * 10 ^ p - q * den)
      · rw [if_pos hc]
        refine Ev.itep (sgn_ge.2 (by omega)) ?_
        by_cases hm : q = 9223372036854775807
        · rw [if_pos hm]
          exact Ev.itep hm (Ev.now _)
        · rw [if_neg hm]
          have hw1 : wrap64 (q + 1) = q + 1 := w64 (by omega) (by omega)
          rw [hw1]
          exact Ev.iten hm (rj2_ev hp ⟨by omega, by omega⟩)
      · rw [if_neg hc]
        exact Ev.iten (fun h => hc (by have := sgn_ge.1 h; omega)) (rj2_ev hp ⟨by omega, by omega⟩)
    · rw [if_neg h]
      exact Ev.iten h (Ev.now _)
  refine Ev.step (fun k => ?_) H
  simp only [carrefourref09_Rate.l0]
  rw [if_neg (by omega)]
theorem rup_ev {p : Nat} {num den : Int} {r : ByteArray × Int} (hp : p ≤ 9) (K : Ev (fun k => carrefourref09_Rate.l0 k (p : Int) (10 ^ p) (p : Int) num den) r) (d : Nat) : ∀ i : Nat, p = i + d → Ev (fun k => carrefourref09_Rate.l0 k (p : Int) (10 ^ i) (i : Int) num den) r := by
  induction d with
  | zero => intro i hi; obtain rfl : p = i := by omega
            exact K
  | succ d ih =>
    intro i hi
    have g : (i : Int) < (p : Int) := by omega
    have hj : wrap64 ((i : Int) + 1) = ((i + 1 : Nat) : Int) := by rw [w64 (by omega) (by omega)]; rfl
    have ht := ten_up (i := i) (by clear hj; omega)
    refine Ev.step (fun k => ?_) (ih (i + 1) (by clear hj ht; omega))
    simp only [carrefourref09_Rate.l0]
    rw [if_pos g, hj, ht]
theorem rRate_ev {num den places : Int} (hn : I64 num) (hd : I64 den) : Ev (fun k => carrefourref09_Rate.f k num den places) (rateZ num den places) := by
  unfold carrefourref09_Rate.f rateZ
  have out : Ev (fun k => carrefourref09_Rate.j0 k places true num den) (⟨#[]⟩, 1) := by
    refine Ev.step (f := fun _ => some (⟨#[]⟩, 1)) (fun k => ?_) (Ev.now _)
    simp only [carrefourref09_Rate.j0]
    rw [if_pos trivial]
  by_cases a : places < 0
  · rw [if_neg (by omega)]; exact Ev.itep a out
  · refine Ev.iten a ?_
    by_cases b : places > 9
    · rw [if_neg (by omega)]; exact Ev.itep b out
    · refine Ev.iten b (Ev.bind (rRight_ev hn hd) ?_)
      by_cases c : rt num den
      · refine Ev.itep (decide_eq_true c) ?_
        by_cases e : num < 0
        · rw [if_neg (by omega), decide_eq_true e]; exact out
        · rw [if_pos ⟨by omega, by omega, c, by omega⟩, decide_eq_false e]
          obtain ⟨p, rfl⟩ := Int.eq_ofNat_of_zero_le (Int.not_lt.1 a)
          rw [Int.toNat_natCast]
          have := rup_ev (p := p) (by omega) (rlast_ev (by omega) (Int.not_lt.1 e) hn c.1 hd) p 0 (by omega)
          refine Ev.step (fun k => ?_) this
          simp only [carrefourref09_Rate.j0]
          rw [if_neg (by decide)]
          rfl
      · rw [if_neg (fun h => c h.2.2.1)]
        exact Ev.iten (by simpa using c) out
end Go.Proofs.YtnocpmngpekceaaDoor.Pure
