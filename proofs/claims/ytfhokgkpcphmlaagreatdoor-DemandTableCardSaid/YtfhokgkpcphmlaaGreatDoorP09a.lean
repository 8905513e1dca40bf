/- Volumes and flow ratios: what the printed functions of packages demand and carrefourref09 come to; the example of chapter 9.
   Conditions: as each theorem's head says. -/
import Derived.Test.YtfhokgkpcphmlaaGreatDoorP02t
import Derived.Lib.ItoaNum
import Derived.Lib.Bytes
import Derived.KernelRfl
namespace Go.Proofs.YtfhokgkpcphmlaaGreatDoor.Pure
set_option linter.unusedVariables false
open Go.RowKit Go.Proofs.YtfhokgkpcphmlaaGreatDoor.X Go.Proofs.YtfhokgkpcphmlaaGreatDoorW.PrintWords Go.Proofs.YtfhokgkpcphmlaaGreatDoorW.PrintLast Go.Proofs.YtfhokgkpcphmlaaGreatDoorW.PrintMore

/-- What was refused has no number. -/
def Fine (x : Int × Int × Int) : Prop := (x.2.2 = 0 → I64 x.1 ∧ I64 x.2.1 ∧ rt x.1 x.2.1) ∧ (x.2.2 ≠ 0 → x.1 = 0 ∧ x.2.1 = 0)
theorem lowZ_fine {z : Int} {d : Nat} (hd : d ≠ 0) : Fine (lowZ z d) := by
  refine ⟨fun h => ?_, fun h => ?_⟩
  · obtain ⟨a, b, c, _⟩ := lowZ_fits hd h
    exact ⟨a, b, c⟩
  · rcases lowZ_err (z := z) (d := d) with e | e
    · exact absurd e h
    · rw [e]; exact ⟨rfl, rfl⟩
theorem three_fine : Fine (0, 0, 3) := ⟨fun h => absurd h (by decide), fun _ => ⟨rfl, rfl⟩⟩
theorem ofS_fine (n d : Int) : Fine (ofS n d) := by
  unfold ofS
  split
  · exact three_fine
  · exact lowZ_fine (by omega)
theorem nm_pos {a b : Int} (ha : I64 a) (hb : I64 b) : (nm a b).2 ≠ 0 := by
  have := (nm_spec ha hb).2.2.1
  omega
theorem mulS_fine {a b c d : Int} (ha : I64 a) (hb : I64 b) (hc : I64 c) (hd : I64 d) : Fine (mulS a b c d) := by
  unfold mulS
  have h1 := nm_pos ha hb; have h2 := nm_pos hc hd
  have := Int.mul_ne_zero h1 h2
  exact lowZ_fine (by omega)
theorem divS_fine {a b c d : Int} (ha : I64 a) (hb : I64 b) (hc : I64 c) (hd : I64 d) : Fine (divS a b c d) := by
  unfold divS
  split
  · exact three_fine
  · rename_i h
    have h1 := nm_pos ha hb
    have := Int.mul_ne_zero h1 h
    exact lowZ_fine (by omega)
theorem i64_one : I64 1 := ⟨by decide, by decide⟩
/-- A head's volume as it counts. -/
def volS (u0 u1 v p0 p1 : Int) : Int × Int × Int :=
  if (ofS u0 u1).2.2 = 0 then (if (mulS (ofS u0 u1).1 (ofS u0 u1).2.1 v 1).2.2 = 0 then (if (ofS p0 p1).2.2 = 0 then divS (mulS (ofS u0 u1).1 (ofS u0 u1).2.1 v 1).1 (mulS (ofS u0 u1).1 (ofS u0 u1).2.1 v 1).2.1 (ofS p0 p1).1 (ofS p0 p1).2.1 else ofS p0 p1) else mulS (ofS u0 u1).1 (ofS u0 u1).2.1 v 1) else ofS u0 u1
/-- A head's flow ratio. -/
def ratS (u0 u1 v s p0 p1 : Int) : Int × Int × Int := if (volS u0 u1 v p0 p1).2.2 = 0 then divS (volS u0 u1 v p0 p1).1 (volS u0 u1 v p0 p1).2.1 s 1 else volS u0 u1 v p0 p1
theorem fine_eq {x : Int × Int × Int} (h : Fine x) (hx : x.2.2 ≠ 0) : x = (0, 0, x.2.2) := by
  obtain ⟨a, b⟩ := h.2 hx
  obtain ⟨p, q, r⟩ := x
  simp only at a b
  rw [a, b]
theorem volS_fine {u0 u1 v p0 p1 : Int} (hv : I64 v) : Fine (volS u0 u1 v p0 p1) := by
  unfold volS
  split
  · rename_i h1
    obtain ⟨a1, a2, _⟩ := (ofS_fine u0 u1).1 h1
    split
    · rename_i h2
      obtain ⟨b1, b2, _⟩ := (mulS_fine a1 a2 hv i64_one).1 h2
      split
      · rename_i h3
        obtain ⟨c1, c2, _⟩ := (ofS_fine p0 p1).1 h3
        exact divS_fine b1 b2 c1 c2
      · exact ofS_fine p0 p1
    · exact mulS_fine a1 a2 hv i64_one
  · exact ofS_fine u0 u1
theorem Ev.eta3 {g : Nat → Option (Int × Int × Int)} {p : Int × Int × Int} (h : Ev g p) : Ev (fun n => (g n).bind fun b => some (b.1, b.2.1, b.2.2)) p := Ev.bind h (Ev.now _)
section
variable (nm_ : ByteArray) {v s u0 u1 a5 a6 a7 a8 a9 a10 p0 p1 : Int}
theorem volume_ev (hv : I64 v) (h3 : I64 u0) (h4 : I64 u1) (hp0 : I64 p0) (hp1 : I64 p1) : Ev (fun k => demand_volume.f k nm_ v s u0 u1 a5 a6 a7 a8 a9 a10 p0 p1) (volS u0 u1 v p0 p1) := by
  unfold demand_volume.f demand_volume_1.f demand_volume_2.f demand_number.f volS
  refine Ev.bind (Ev.eta3 (Of_ev h3 h4)) ?_
  by_cases h : (ofS u0 u1).2.2 = 0
  · rw [if_pos h]
    obtain ⟨a1, a2, _⟩ := (ofS_fine u0 u1).1 h
    refine Ev.itep h (Ev.bind (Ev.bindc rfl (Ev.eta3 (Mul_ev' a1 a2 hv i64_one))) ?_)
    by_cases h' : (mulS (ofS u0 u1).1 (ofS u0 u1).2.1 v 1).2.2 = 0
    · rw [if_pos h']
      obtain ⟨b1, b2, _⟩ := (mulS_fine a1 a2 hv i64_one).1 h'
      refine Ev.itep h' (Ev.bind (Ev.eta3 (Of_ev hp0 hp1)) ?_)
      by_cases h'' : (ofS p0 p1).2.2 = 0
      · rw [if_pos h'']
        obtain ⟨c1, c2, _⟩ := (ofS_fine p0 p1).1 h''
        exact Ev.itep h'' (Div_ev b1 b2 c1 c2)
      · rw [if_neg h'', fine_eq (ofS_fine p0 p1) h'']
        exact Ev.iten (by simpa using h'') (Ev.now _)
    · rw [if_neg h']
      exact Ev.iten h' (Ev.now _)
  · rw [if_neg h]
    exact Ev.iten h (Ev.now _)
theorem Volume_ev (hv : I64 v) (h3 : I64 u0) (h4 : I64 u1) (hp0 : I64 p0) (hp1 : I64 p1) : Ev (fun k => demand_Volume.f k nm_ v s u0 u1 a5 a6 a7 a8 a9 a10 p0 p1) (volS u0 u1 v p0 p1) := by
  unfold demand_Volume.f
  exact Ev.eta3 (volume_ev nm_ hv h3 h4 hp0 hp1)
theorem Ratio_ev (hv : I64 v) (hs : I64 s) (h3 : I64 u0) (h4 : I64 u1) (hp0 : I64 p0) (hp1 : I64 p1) : Ev (fun k => demand_Ratio.f k nm_ v s u0 u1 a5 a6 a7 a8 a9 a10 p0 p1) (ratS u0 u1 v s p0 p1) := by
  unfold demand_Ratio.f demand_Ratio_1.f demand_number.f ratS
  refine Ev.bind (volume_ev nm_ hv h3 h4 hp0 hp1) ?_
  by_cases h : (volS u0 u1 v p0 p1).2.2 = 0
  · rw [if_pos h]
    obtain ⟨a, b, _⟩ := (volS_fine (p0 := p0) (p1 := p1) (u0 := u0) (u1 := u1) hv).1 h
    exact Ev.itep h (Ev.bindc rfl (Ev.eta3 (Div_ev a b hs i64_one)))
  · rw [if_neg h]
    exact Ev.iten h (Ev.now _)
theorem rVolume_ev (hv : I64 v) (h3 : I64 u0) (h4 : I64 u1) (hp0 : I64 p0) (hp1 : I64 p1) : Ev (fun k => carrefourref09_Volume.f k nm_ v s u0 u1 a5 a6 a7 a8 a9 a10 p0 p1) (volS u0 u1 v p0 p1) := by
  unfold carrefourref09_Volume.f volS
  refine Ev.bind (rOf_ev h3 h4) ?_
  by_cases h : (ofS u0 u1).2.2 = 0
  · rw [if_pos h]
    obtain ⟨a1, a2, _⟩ := (ofS_fine u0 u1).1 h
    refine Ev.itep h (Ev.bind (rMul2_ev a1 a2 hv i64_one) ?_)
    by_cases h' : (mulS (ofS u0 u1).1 (ofS u0 u1).2.1 v 1).2.2 = 0
    · rw [if_pos h']
      obtain ⟨b1, b2, _⟩ := (mulS_fine a1 a2 hv i64_one).1 h'
      refine Ev.itep h' (Ev.bind (rOf_ev hp0 hp1) ?_)
      by_cases h'' : (ofS p0 p1).2.2 = 0
      · rw [if_pos h'']
        obtain ⟨c1, c2, _⟩ := (ofS_fine p0 p1).1 h''
        exact Ev.itep h'' (Ev.eta3 (rDiv_ev b1 b2 c1 c2))
      · rw [if_neg h'']
        have e := fine_eq (ofS_fine p0 p1) h''
        refine Ev.iten h'' ?_
        rw [← e]; exact Ev.now _
    · rw [if_neg h']
      have e := fine_eq (mulS_fine a1 a2 hv i64_one) h'
      refine Ev.iten h' ?_
      rw [← e]; exact Ev.now _
  · rw [if_neg h]
    have e := fine_eq (ofS_fine u0 u1) h
    refine Ev.iten h ?_
    rw [← e]; exact Ev.now _
theorem rRatio_ev (hv : I64 v) (hs : I64 s) (h3 : I64 u0) (h4 : I64 u1) (hp0 : I64 p0) (hp1 : I64 p1) : Ev (fun k => carrefourref09_Ratio.f k nm_ v s u0 u1 a5 a6 a7 a8 a9 a10 p0 p1) (ratS u0 u1 v s p0 p1) := by
  unfold carrefourref09_Ratio.f ratS
  refine Ev.bind (rVolume_ev nm_ hv h3 h4 hp0 hp1) ?_
  by_cases h : (volS u0 u1 v p0 p1).2.2 = 0
  · rw [if_pos h]
    obtain ⟨a, b, _⟩ := (volS_fine (p0 := p0) (p1 := p1) (u0 := u0) (u1 := u1) hv).1 h
    exact Ev.itep h (Ev.eta3 (rDiv_ev a b hs i64_one))
  · rw [if_neg h]
    have e := fine_eq (volS_fine (p0 := p0) (p1 := p1) (u0 := u0) (u1 := u1) hv) h
    refine Ev.iten h ?_
    rw [← e]; exact Ev.now _
end
/-! ### the example -/
theorem itoa_259 : Lib.itoa 259 = [50, 53, 57] := by
  unfold Lib.itoa
  rw [if_neg (by decide), Lib.decDigits]
  simp
  rw [Lib.decDigits]
  simp
  rw [Lib.decDigits]
  simp
theorem fmt_259 : strconv_FormatInt.f 259 10 = some ⟨#[50, 53, 57]⟩ := by
  unfold strconv_FormatInt.f
  rw [if_pos ⟨rfl, by decide, by decide⟩, itoa_259]
theorem rate_j2 : Ev (fun k => demand_Rate.j2 k 3 259) (⟨#[48, 46, 50, 53, 57]⟩, 0) := by
  refine Ev.step (f := fun _ => some (⟨#[48, 46, 50, 53, 57]⟩, 0)) (fun k => ?_) (Ev.now _)
  simp only [demand_Rate.j2]
  rw [fmt_259]
  kernel_rfl
theorem Ev.at_ {α : Type} {g : Nat → Option α} {r : α} (m : ∀ k, LeO (g k) (g (k + 1))) (K : Nat) (h : g K = some r) : Ev g r := by
  refine ⟨K, fun k hk => ?_⟩
  obtain ⟨d, rfl⟩ := Nat.exists_eq_add_of_le hk
  induction d with
  | zero => exact h
  | succ d ih => exact m (K + d) r (ih (by omega))
theorem rate_l0 : Ev (fun k => demand_Rate.l0 k 3 1000 3 3 7 27) (⟨#[48, 46, 50, 53, 57]⟩, 0) := by
  have hs : Ev (fun k => whole_Scale.f k 7 1000 27) (259, 0) := Ev.at_ (whole_Scale.mono _ _ _) 200 (by decide +kernel)
  have H := Ev.bind (f := fun k bt557 => (if bt557.2 = 0 then ((demand_new128.f 7 1000).bind fun bt559 => ((demand_new128.f bt557.1 27).bind fun bt561 => ((demand_long_less.f bt559.1 bt559.2 bt561.1 bt561.2).bind fun bt563 => ((demand_long_twice.f bt563.1 bt563.2).bind fun bt566 => ((demand_long_atLeast.f bt566.1 bt566.2 27).bind fun t568 => (if t568 = true then ((whole_Add.f bt557.1 1).bind fun bt569 => (if bt569.2 = 0 then (demand_Rate.j2 k 3 bt569.1) else (some ((⟨#[]⟩ : ByteArray), bt569.2)))) else (demand_Rate.j2 k 3 bt557.1))))))) else (some ((⟨#[]⟩ : ByteArray), bt557.2)))) hs
    (Ev.itep rfl (Ev.bindc (a := (0, 7000)) (by decide +kernel) (Ev.bindc (a := (0, 6993)) (by decide +kernel) (Ev.bindc (a := (0, 7)) (by decide +kernel) (Ev.bindc (a := (0, 14)) (by decide +kernel) (Ev.bindc (a := false) (by decide +kernel) (Ev.iten (by decide) rate_j2)))))))
  refine Ev.step (fun k => ?_) H
  simp only [demand_Rate.l0]
  rw [if_neg (by decide)]
theorem rate_up {x i y j : Int} {r : ByteArray × Int} (h : i < 3) (hy : wrap64 (x * 10) = y) (hj : wrap64 (i + 1) = j) (k : Ev (fun k => demand_Rate.l0 k 3 y 3 j 7 27) r) : Ev (fun k => demand_Rate.l0 k 3 x 3 i 7 27) r := by
  refine Ev.step (fun n => ?_) k
  simp only [demand_Rate.l0]
  rw [if_pos h, hy, hj]
theorem rate_ev : Ev (fun k => demand_Rate.f k 7 27 3) (⟨#[48, 46, 50, 53, 57]⟩, 0) := by
  unfold demand_Rate.f
  have hr : decide (rt 7 27) = true := by decide +kernel
  have hR := Right_ev (a := 7) (b := 27) ⟨by decide, by decide⟩ ⟨by decide, by decide⟩
  rw [hr] at hR
  refine Ev.iten (by decide) (Ev.iten (by decide) (Ev.bind hR (Ev.itep rfl ?_)))
  refine Ev.step (f := fun k => demand_Rate.l0 k 3 1 3 0 7 27) (fun k => ?_) (rate_up (y := 10) (j := 1) (by decide +kernel) (by decide +kernel) (by decide +kernel) (rate_up (y := 100) (j := 2) (by decide +kernel) (by decide +kernel) (by decide +kernel) (rate_up (y := 1000) (j := 3) (by decide +kernel) (by decide +kernel) (by decide +kernel) rate_l0)))
  simp only [demand_Rate.j0]
  rw [if_neg (by decide)]
theorem toList_mk9 (l : List UInt8) : (⟨l.toArray⟩ : ByteArray).toList = l := by
  rw [Lib.toList_data]
theorem awake09_ev : Ev (fun k => carrefourlaw09_awake.f k) true := by
  unfold carrefourlaw09_awake.f
  have b : ∀ x : Int, 0 ≤ x → x < 100000 → I64 x := fun x h k => ⟨by omega, by omega⟩
  have hv := Volume_ev (⟨#[]⟩ : ByteArray) (v := 400) (s := 1800) (u0 := 21) (u1 := 20) (a5 := 0) (a6 := 0) (a7 := 0) (a8 := 0) (a9 := 0) (a10 := 0) (p0 := 9) (p1 := 10) (b _ (by decide) (by decide)) (b _ (by decide) (by decide)) (b _ (by decide) (by decide)) (b _ (by decide) (by decide)) (b _ (by decide) (by decide))
  have hr := Ratio_ev (⟨#[]⟩ : ByteArray) (v := 400) (s := 1800) (u0 := 21) (u1 := 20) (a5 := 0) (a6 := 0) (a7 := 0) (a8 := 0) (a9 := 0) (a10 := 0) (p0 := 9) (p1 := 10) (b _ (by decide) (by decide)) (b _ (by decide) (by decide)) (b _ (by decide) (by decide)) (b _ (by decide) (by decide)) (b _ (by decide) (by decide)) (b _ (by decide) (by decide))
  have e1 : volS 21 20 400 9 10 = (1400, 3, 0) := by decide +kernel
  have e2 : ratS 21 20 400 1800 9 10 = (7, 27, 0) := by decide +kernel
  rw [e1] at hv
  rw [e2] at hr
  refine Ev.bind hv (Ev.bind hr (Ev.bind rate_ev (Ev.itep rfl (Ev.itep rfl (Ev.itep rfl (Ev.itep (by decide) (Ev.itep (by decide) ?_)))))))
  have e3 : (⟨#[48, 46, 50, 53, 57]⟩ : ByteArray).toList = [48, 46, 50, 53, 57] := toList_mk9 [48, 46, 50, 53, 57]
  simp only [e3]
  exact Ev.now _
end Go.Proofs.YtfhokgkpcphmlaaGreatDoor.Pure
