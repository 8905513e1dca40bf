/- report.Width, walked. Conditions: as each theorem's head says. -/
import Derived.Test.YtkbffpadkdgbmaaGreatDoorH5
namespace Go.Proofs.YtkbffpadkdgbmaaGreatDoor.X
open Go.Shelf Go.RowKit Go.Proofs.YtkbffpadkdgbmaaGreatDoorW.PrintWords Go.Proofs.YtkbffpadkdgbmaaGreatDoorW.PrintLast Go.Proofs.YtkbffpadkdgbmaaGreatDoorW.PrintMore
set_option linter.unusedVariables false
set_option linter.unusedSimpArgs false
set_option maxHeartbeats 1000000
set_option maxRecDepth 100000
theorem report_Width.calls (k : Nat) (A0 : Option Addr) (c0 : Nat) (l0 : List (List ByteArray)) (a1 r : Int) (w : World) (hr0 : Kd.C (Kd.slice 9 Kd.string) w A0 l0.length l0) (hc0 : l0.length ≤ c0) (h : report_Width.f k l0 a1 = some r) :
    Calls Tryz.prog 8 #[.slice A0 l0.length c0, .int .i64 a1] w fun e w' => e = .returned (.int .i64 r) ∧ Below w.heap.size w w' := by
  have hsm : smallF l0 = true := by
    unfold report_Width.f at h
    split at h
    · assumption
    · cases h
  have hres : (if a1 < 0 then 0 else rdOf 0 (widths l0) a1) = r := by
    unfold report_Width.f at h
    rw [if_pos hsm] at h
    exact Option.some.inj h
  have HRes := Aside0.mk hres
  clear h hres
  have HS := Aside0.mk hsm
  have HM := Aside0.mk (small_says hsm)
  clear hsm
  have HR := Aside0.mk hr0
  have HC := Aside0.mk hc0
  clear hr0 hc0
  have HB := Aside0.mk (Below.refl w.heap.size w)
  have hu32 := Tryz.underlying32
  obtain ⟨m, hm⟩ : ∃ m, l0.length = m := ⟨_, rfl⟩
  have HN := Aside0.mk hm
  rw [hm] at HR HC ⊢
  clear hm
  go_enter Tryz.func8, Tryz.ntmps8
  go_wp2_with (first | ((with_reducible refine gd 9 rfl ?_); refine bx_ 9 32 #[.slice none 0 0, .slice none 0 0] rfl rfl ?_; intro g9 hg w1 BK9 hb; have GE9 := bz HB hg; replace HB := bs HB hb; clear hb hg))
  have HT := Aside0.mk (Tb.new BK9.out GE9.out)
  clear BK9 GE9
  go_loopg [12] (m + 1) (fun kq v12 w' => ∃ x : Int, v12 = .int .i64 x ∧ Aside0 (0 ≤ x ∧ x + kq = m + 1 ∧ x ≤ m) ∧ Aside0 (∃ vR vW, Tb w w' g9 vR vW (l0.take x.toNat) (widths (l0.take x.toNat))) ∧ Aside0 (Below w.heap.size w w'))
  case atStart => exact ⟨0, (aq), ⟨⟨by omega, by omega, by omega⟩⟩, ⟨⟨_, _, HT.out⟩⟩, ⟨bf HB⟩⟩
  case round =>
    clear HB HT
    obtain ⟨x, rfl, HX, HV, HB⟩ := hrel
    obtain ⟨vR, vW, hsr⟩ := HV.out
    clear HV
    have HT := Aside0.mk hsr
    clear hsr
    cases gk with
    | zero => exact absurd HX.out (by rintro ⟨_, _, _⟩; omega)
    | succ k1 =>
      by_cases c : x < (m : Int)
      · have c1 : decide (x < (m : Int)) = true := decide_eq_true c
        have p0 := HX.out.1
        obtain ⟨ad, A2, c2, ea_, hx0, hl2, hC2⟩ := at_L1 HR.out x p0 c
        cases ea_
        replace hx0 := (HB.out.cell (World.block_lt_of_cell? w _ hx0)).trans hx0
        have HMem := Aside0.mk (HM.out.2 _ (rd_memL p0 (by have := HN.out; omega)))
        have HW := Aside0.mk (⟨by have := HM.out.1; have := HN.out; unfold wrap64; omega, by omega⟩ : wrap64 (x + 1) = x + 1 ∧ x + 1 ≤ m)
        have HTk := Aside0.mk (take_rdL (l := l0) p0 (by have := HN.out; omega))
        obtain ⟨r, hr⟩ : ∃ r, rd_L1 l0 x = r := ⟨_, rfl⟩
        rw [hr] at hx0 hl2 hC2 HMem HTk
        clear hr
        have HR2 := Aside0.mk hC2
        have HC2 := Aside0.mk hl2
        clear hC2 hl2
        have HLs := Aside0.mk (⟨by rw [List.length_take]; have := HM.out.1; have := HN.out; omega, widths_len _ _ (fun r' hr' => (HM.out.2 r' (List.mem_of_mem_take hr')).1) (by decide)⟩ : (l0.take x.toNat).length ≤ 40 ∧ (widths (l0.take x.toNat)).length ≤ 20)
        replace p0 := eq_true p0
        replace c := eq_true c
        go_wp2_with (first | (go_at_call 12; refine (table_row.calls w g9 A2 c2 r (l0.take x.toNat) (widths (l0.take x.toNat)) vR vW _ HMem.out.1 HMem.out.2 HLs.out.1 HLs.out.2 HC2.out HR2.out HT.out HB.out).mono ?_; rintro e w5 ⟨rfl, hB5, vR5, vW5, hT5⟩; have HB5 := Aside0.mk hB5; have HT5 := Aside0.mk hT5; clear hB5 hT5))
        go_roundg k1
        case measure => omega
        case rel => exact ⟨wrap64 (x + 1), (aq), ⟨by rw [HW.out.1]; have := HX.out; have := HW.out; exact ⟨by omega, by omega, by omega⟩⟩, ⟨⟨vR5, vW5, by rw [HW.out.1, HTk.out, widths, List.foldl_append]; exact HT5.out⟩⟩, HB5⟩
      · have c1 : decide (x < (m : Int)) = false := decide_eq_false c
        have HE := Aside0.mk (show l0.take x.toNat = l0 from List.take_of_length_le (by have := HX.out; have := HN.out; omega))
        rw [HE.out] at HT
        clear c
        obtain ⟨AW, cW, rfl⟩ := Kd.R_slice HT.out.rW
        have HWL := Aside0.mk (widths_len l0 [] (fun r' hr' => (HM.out.2 r' hr').1) (by decide))
        obtain ⟨n, hn⟩ : ∃ n, (widths l0).length = n := ⟨_, rfl⟩
        have HN2 := Aside0.mk hn
        rw [hn] at HT
        have hyt := X.k2 (Aside0.mk HT.out.ht)
        clear hn
        by_cases d : a1 < 0
        · have hr := HRes.out
          rw [if_pos d] at hr
          subst hr
          have d1 : decide (a1 < 0) = true := decide_eq_true d
          clear d
          go_wp2
          go_ret
          exact ⟨rfl, bf HB⟩
        · have d1 : decide (a1 < 0) = false := decide_eq_false d
          have hr := HRes.out
          rw [if_neg d] at hr
          by_cases e : a1 < (n : Int)
          · have e1 : decide (a1 ≥ (n : Int)) = false := decide_eq_false (by omega)
            have e2 : decide ((n : Int) ≤ a1) = false := decide_eq_false (by omega)
            have p0 : (0 ≤ a1) = True := eq_true (by omega)
            have q0 : (a1 < (n : Int)) = True := eq_true e
            obtain ⟨g5, rfl⟩ : ∃ g, AW = some ⟨g, 0, none⟩ := by
              obtain ⟨g5, c5, ev5⟩ := own_form0 HT.out.rW (by have := HN2.out; omega)
              injection ev5 with ea5 _ _
              exact ⟨g5, ea5⟩
            have hyw := Kd.R_celln 0 HT.out.rW a1 (by omega) e
            rw [hr] at hyw
            clear d e hr
            go_wp2
            go_ret
            exact ⟨rfl, bf HB⟩
          · have e1 : decide (a1 ≥ (n : Int)) = true := decide_eq_true (by omega)
            have e2 : decide ((n : Int) ≤ a1) = true := decide_eq_true (by omega)
            have hz : rdOf 0 (widths l0) a1 = 0 := by
              have := HN2.out
              unfold rdOf
              rw [List.getD_eq_getElem?_getD, List.getElem?_eq_none (by omega)]
              rfl
            rw [hz] at hr
            subst hr
            clear d e hz
            go_wp2
            go_ret
            exact ⟨rfl, bf HB⟩
end Go.Proofs.YtkbffpadkdgbmaaGreatDoor.X
