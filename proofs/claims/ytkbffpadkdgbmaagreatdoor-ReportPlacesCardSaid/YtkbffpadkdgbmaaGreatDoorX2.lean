/- Walks: each '.calls' says that the Go function comes to what its Lean function tells. Conditions: as each theorem's head says. -/
import Derived.Test.YtkbffpadkdgbmaaGreatDoorXD
import Derived.Test.YtkbffpadkdgbmaaGreatDoorX0
import Derived.Test.YtkbffpadkdgbmaaGreatDoorX1
namespace Go.Proofs.YtkbffpadkdgbmaaGreatDoor.X
open Go.RowKit Go.Proofs.YtkbffpadkdgbmaaGreatDoorW.PrintWords Go.Proofs.YtkbffpadkdgbmaaGreatDoorW.PrintLast Go.Proofs.YtkbffpadkdgbmaaGreatDoorW.PrintMore
attribute [local go_sem] max2_int min2_int max_two min_two max_three min_three max_four min_four   -- for this text's walks alone
set_option linter.unusedVariables false
set_option maxHeartbeats 8000000
set_option maxRecDepth 100000
set_option linter.unusedSimpArgs false

/-! ### carrefourlaw29_ReportPlaces: function 4 -/
theorem carrefourlaw29_ReportPlaces.calls (k : Nat) (A0 : Option Addr) (c0 : Nat) (l0 : List (List ByteArray)) (r : Bool) (w : World) (hr0 : Kd.C (Kd.slice 9 Kd.string) w A0 l0.length l0) (hc0 : l0.length ≤ c0) (h : carrefourlaw29_ReportPlaces.f k l0 = some r) (hT : TabOK w) :
  Calls Tryz.prog 4 #[.slice A0 l0.length c0] w fun e w' => e = .returned (.bool r) ∧ Below w.heap.size w w' := by
 have GT := Aside0.mk hT
 clear hT
 have HR0 := Aside0.mk hr0
 have HC0 := Aside0.mk hc0
 clear hr0 hc0
 have HB := Aside0.mk (Below.refl w.heap.size w)
 have H : ((carrefourlaw29_few.f k l0).bind fun t114 => (if t114 = true then ((carrefourlaw29_plain.f k l0).bind fun t115 => (carrefourlaw29_ReportPlaces.j0 k l0 (!t115))) else (carrefourlaw29_ReportPlaces.j0 k l0 true))) = some r := h
 clear h
 have HC2 := Aside0.mk H
 clear H
 go_enter Tryz.func4, Tryz.ntmps4
 go_upto_region 1 with (fail)
 go_cut [17] (fun v17 wc => ∃ (kq : Nat) (x17_1 : Bool), v17 = .bool x17_1 ∧ Aside0 (carrefourlaw29_ReportPlaces.j0 kq l0 x17_1 = some r) ∧ Aside0 (kq ≤ k) ∧ Aside0 (Below w.heap.size w wc))
 case first =>
  have H := HC2.out
  clear HC2
  replace H := bi_ H; obtain ⟨t114, A3, H⟩ := H
  (try dsimp only at H)
  by_cases c4 : t114 = true
  ·subst c4
   have H1 : ((carrefourlaw29_plain.f k l0).bind fun t115 => (carrefourlaw29_ReportPlaces.j0 k l0 (!t115))) = some r := by rw [if_pos rfl] at H; exact H
   clear H
   have H := H1
   clear H1
   replace H := bi_ H; obtain ⟨t115, A5, H⟩ := H
   (try dsimp only at H)
   have H' := Aside0.mk H
   clear H
   go_wp2_with (first | ((with_reducible refine gc 5 rfl ?_); refine gm_ (some 11) rfl rfl Tryz.func5 (carrefourlaw29_few.calls _ _ _ _ _ _ ?side1 ?side2 A3.out) ag ?_; (case side1 => repeat (first | exact (Kd.C_below HR0.out HB.out) | (with_reducible refine Kd.C_alloc ?_ _) | (with_reducible refine Kd.C_drewN ?_ _) | (with_reducible refine Kd.C_drew ?_))); (case side2 => exact HC0.out); rintro w' ⟨nd, rfl⟩) | (go_at_call 11; (with_reducible refine (carrefourlaw29_plain.calls _ _ _ _ _ _ ?side1 ?side2 A5.out).mono ?_); (case side1 => repeat (first | exact (Kd.C_below HR0.out (bf HB)) | (with_reducible refine Kd.C_alloc ?_ _) | (with_reducible refine Kd.C_drewN ?_ _) | (with_reducible refine Kd.C_drew ?_))); (case side2 => exact HC0.out); rintro e w' ⟨rfl, ⟨nd, rfl⟩⟩))
   go_meet
   case rel => exact ⟨_, (!t115), (aq), H', ⟨by first | omega | exact Nat.le_refl _⟩, ⟨bf HB⟩⟩
  ·replace c4 := Bool.eq_false_iff.mpr c4
   subst c4
   have H1 : (carrefourlaw29_ReportPlaces.j0 k l0 true) = some r := by rw [if_neg (show ¬ (false = true) by decide)] at H; exact H
   clear H
   have H := H1
   clear H1
   have H' := Aside0.mk H
   clear H
   go_wp2_with (first | ((with_reducible refine gc 5 rfl ?_); refine gm_ (some 11) rfl rfl Tryz.func5 (carrefourlaw29_few.calls _ _ _ _ _ _ ?side1 ?side2 A3.out) ag ?_; (case side1 => repeat (first | exact (Kd.C_below HR0.out HB.out) | (with_reducible refine Kd.C_alloc ?_ _) | (with_reducible refine Kd.C_drewN ?_ _) | (with_reducible refine Kd.C_drew ?_))); (case side2 => exact HC0.out); rintro w' ⟨nd, rfl⟩))
   go_meet
   case rel => exact ⟨_, (true), (aq), H', ⟨by first | omega | exact Nat.le_refl _⟩, ⟨bf HB⟩⟩
 case rest =>
  clear HC2
  (try clear p2); (try clear c4); (try clear c5)
  obtain ⟨kq, x17_1, rfl, HA, HJ1, HB⟩ := hcut
  cases kq with
  | zero => exact absurd HA.out (by simp [carrefourlaw29_ReportPlaces.j0])
  | succ kj1 =>
   have H := HA.out
   clear HA
   simp only [carrefourlaw29_ReportPlaces.j0] at H
   by_cases c6 : x17_1 = true
   ·subst c6
    have H1 : ((carrefourlaw29_awake.f).bind fun t116 => (some t116)) = some r := by rw [if_pos rfl] at H; exact H
    clear H
    have H := H1
    clear H1
    replace H := bi_ H; obtain ⟨t116, A7, H⟩ := H
    (try dsimp only at H)
    obtain rfl := Option.some.inj H
    go_wp2_with (first | ((with_reducible refine gc 10 rfl ?_); refine gm_ (some 18) rfl rfl Tryz.func10 (carrefourlaw29_awake.calls _ _ A7.out (tt GT)) ag ?_; intro w8 hb; replace HB := bs HB hb; (try clear hb)))
    go_ret
    exact ⟨ae, bf HB⟩
   ·replace c6 := Bool.eq_false_iff.mpr c6
    subst c6
    have H1 : ((report_Table.f kj1 l0).bind fun t117 => (carrefourlaw29_ReportPlaces.l0 kj1 l0 t117 0 0)) = some r := by rw [if_neg (show ¬ (false = true) by decide)] at H; exact H
    clear H
    have H := H1
    clear H1
    replace H := bi_ H; obtain ⟨t117, A9, H⟩ := H
    (try dsimp only at H)
    have H' := Aside0.mk H
    clear H
    go_wp2_with (first | ((with_reducible refine gc 6 rfl ?_); refine gm_ (some 20) rfl rfl Tryz.func6 (report_Table.calls kj1 _ _ _ _ _ ?side1 ?side2 A9.out) ag ?_; (case side1 => repeat (first | exact (Kd.C_below HR0.out HB.out) | (with_reducible refine Kd.C_alloc ?_ _) | (with_reducible refine Kd.C_drewN ?_ _) | (with_reducible refine Kd.C_drew ?_))); (case side2 => exact HC0.out); intro w10 hb; replace HB := bs HB hb; (try clear hb)))
    go_loopg [4, 5] kj1 (fun kq v4 v5 w' => ∃ (x4_2 : Int) (x5_2 : Int), v4 = .int .i64 x4_2 ∧ v5 = .int .i64 x5_2 ∧ Aside0 (carrefourlaw29_ReportPlaces.l0 kq l0 t117 x4_2 x5_2 = some r) ∧ Aside0 (kq ≤ kj1) ∧ Aside0 (Below w.heap.size w w'))
    case atStart => exact ⟨(0), (0), (aq), (aq), H', ⟨Nat.le_refl _⟩, ⟨bf HB⟩⟩
    case round =>
     clear H'
     (try clear c1); (try clear p2); (try clear c4); (try clear c5); (try clear c6); (try clear c10); (try clear p2)
     obtain ⟨x4_2, x5_2, rfl, rfl, HA, HK2, HB⟩ := hrel
     cases gk with
     | zero => exact absurd HA.out (by simp [carrefourlaw29_ReportPlaces.l0])
     | succ k2 =>
      have H := HA.out
      clear HA
      simp only [carrefourlaw29_ReportPlaces.l0] at H
      by_cases c11 : x5_2 < (l0.length : Int)
      ·rw [if_pos c11] at H
       have c11b0 : decide (x5_2 < (l0.length : Int)) = true := decide_eq_true c11
       clear c11
       have H' := Aside0.mk H
       clear H
       go_wp2
       go_loopg [6, 7, 8] k2 (fun kq v6 v7 v8 w' => ∃ (x6_3 : Int) (x7_3 : Int) (x8_3 : Int), v6 = .int .i64 x6_3 ∧ v7 = .int .i64 x7_3 ∧ v8 = .int .i64 x8_3 ∧ Aside0 (carrefourlaw29_ReportPlaces.l1 kq l0 t117 x4_2 x5_2 x6_3 x7_3 x8_3 = some r) ∧ Aside0 (kq ≤ k2) ∧ Aside0 (Below w.heap.size w w'))
       case atStart => exact ⟨(0), (x4_2), (0), (aq), (aq), (aq), H', ⟨Nat.le_refl _⟩, ⟨bf HB⟩⟩
       case round =>
        clear H'
        (try clear c1); (try clear p2); (try clear c4); (try clear c5); (try clear c6); (try clear c10); (try clear c11); (try clear c11b0); (try clear p2)
        obtain ⟨x6_3, x7_3, x8_3, rfl, rfl, rfl, HA, HK3, HB⟩ := hrel
        cases gk with
        | zero => exact absurd HA.out (by simp [carrefourlaw29_ReportPlaces.l1])
        | succ k3 =>
         have H := HA.out
         clear HA
         simp only [carrefourlaw29_ReportPlaces.l1] at H
         by_cases c12 : 0 ≤ x5_2
         ·rw [if_pos c12] at H
          have c12b0 : decide (0 ≤ x5_2) = true := decide_eq_true c12
          clear c12
          by_cases c13 : x5_2 < (l0.length : Int)
          ·rw [if_pos c13] at H
           have c13b0 : decide (x5_2 < (l0.length : Int)) = true := decide_eq_true c13
           clear c13
           by_cases c14 : x8_3 < ((rd_L1 l0 x5_2).length : Int)
           ·rw [if_pos c14] at H
            have c14b0 : decide (x8_3 < ((rd_L1 l0 x5_2).length : Int)) = true := decide_eq_true c14
            clear c14
            have H' := Aside0.mk H
            clear H
            have p119 : 0 ≤ (x5_2 : Int) := od_
            have q119 : x5_2 < (l0.length : Int) := od_
            obtain ⟨ad119, A119_0, c119_0, e119, hx119_0, hl119_0, hi119_0⟩ := at_L1 HR0.out x5_2 p119 q119
            cases e119
            replace hx119_0 := hx_ HB hx119_0
            have HR119_0 := Aside0.mk hi119_0
            have HC119_0 := Aside0.mk hl119_0
            clear hi119_0 hl119_0
            replace p119 := eq_true p119
            replace q119 := eq_true q119
            go_wp2
            go_loopg [7] k3 (fun kq v7 w' => ∃ (x7_4 : Int), v7 = .int .i64 x7_4 ∧ Aside0 (carrefourlaw29_ReportPlaces.l2 kq l0 t117 x4_2 x5_2 x6_3 x7_4 x8_3 = some r) ∧ Aside0 (kq ≤ k3) ∧ Aside0 (Below w.heap.size w w'))
            case atStart => exact ⟨(x7_3), (aq), H', ⟨Nat.le_refl _⟩, ⟨bf HB⟩⟩
            case round =>
             clear H'
             (try clear c1); (try clear p1); (try clear q1); (try clear hx1); (try clear p2); (try clear c4); (try clear c5); (try clear c6); (try clear c10); (try clear c11); (try clear c11b0); (try clear p11); (try clear q11); (try clear hx11); (try clear c12); (try clear c12b0); (try clear c13); (try clear c13b0); (try clear c14); (try clear c14b0); (try clear hx119_0); (try clear p119); (try clear p2); (try clear q119)
             obtain ⟨x7_4, rfl, HA, HK4, HB⟩ := hrel
             cases gk with
             | zero => exact absurd HA.out (by simp [carrefourlaw29_ReportPlaces.l2])
             | succ k4 =>
              have H := HA.out
              clear HA
              simp only [carrefourlaw29_ReportPlaces.l2] at H
              by_cases c15 : x7_4 < (wrap64 (x4_2 + x6_3))
              ·rw [if_pos c15] at H
               have c15b0 : decide (x7_4 < (wrap64 (x4_2 + x6_3))) = true := decide_eq_true c15
               clear c15
               by_cases c16 : x7_4 ≥ (t117.size : Int)
               ·rw [if_pos c16] at H
                have c16b0 : decide ((t117.size : Int) ≤ x7_4) = true := decide_eq_true c16
                clear c16
                obtain rfl := Option.some.inj H
                go_wp2
                go_ret
                exact ⟨ae, bf HB⟩
               ·rw [if_neg c16] at H
                have c16b0 : decide ((t117.size : Int) ≤ x7_4) = false := decide_eq_false c16
                clear c16
                by_cases c17 : 0 ≤ x7_4
                ·rw [if_pos c17] at H
                 have c17b0 : decide (0 ≤ x7_4) = true := decide_eq_true c17
                 clear c17
                 by_cases c18 : x7_4 < (t117.size : Int)
                 ·rw [if_pos c18] at H
                  have c18b0 : decide (x7_4 < (t117.size : Int)) = true := decide_eq_true c18
                  clear c18
                  by_cases c20 : (bt t117 x7_4) = 32
                  ·rw [if_pos c20] at H
                   have c20b0 : ((bt t117 x7_4) == 32) = true := beq_iff_eq.mpr c20
                   have c20b1 : ((bt t117 x7_4) != 32) = false := bne_eq_false_iff_eq.mpr c20
                   clear c20
                   have H' := Aside0.mk H
                   clear H
                   have p19 : 0 ≤ (x7_4 : Int) := od_
                   have q19 : x7_4 < (t117.size : Int) := od_
                   have hx19 := bt_at t117 x7_4
                   replace p19 := eq_true p19
                   replace q19 := eq_true q19
                   go_wp2
                   go_roundg k4
                   case measure => have := HJ1.out; have := HK2.out; have := HK3.out; have := HK4.out; omega
                   case rel => exact ⟨(wrap64 (x7_4 + 1)), (aq), H', ⟨by have := HJ1.out; have := HK2.out; have := HK3.out; have := HK4.out; omega⟩, ⟨bf HB⟩⟩
                  ·rw [if_neg c20] at H
                   have c20b0 : ((bt t117 x7_4) == 32) = false := beq_eq_false_iff_ne.mpr c20
                   have c20b1 : ((bt t117 x7_4) != 32) = true := bne_iff_ne.mpr c20
                   obtain rfl := Option.some.inj H
                   have p19 : 0 ≤ (x7_4 : Int) := od_
                   have q19 : x7_4 < (t117.size : Int) := od_
                   have hx19 := bt_at t117 x7_4
                   replace p19 := eq_true p19
                   replace q19 := eq_true q19
                   go_wp2
                   go_ret
                   exact ⟨ae, bf HB⟩
                 ·rw [if_neg c18] at H
                  exact absurd H (by simp)
                ·rw [if_neg c17] at H
                 exact absurd H (by simp)
              ·rw [if_neg c15] at H
               have c15b0 : decide (x7_4 < (wrap64 (x4_2 + x6_3))) = false := decide_eq_false c15
               clear c15
               by_cases c21 : 0 ≤ x5_2
               ·rw [if_pos c21] at H
                have c21b0 : decide (0 ≤ x5_2) = true := decide_eq_true c21
                clear c21
                by_cases c22 : x5_2 < (l0.length : Int)
                ·rw [if_pos c22] at H
                 have c22b0 : decide (x5_2 < (l0.length : Int)) = true := decide_eq_true c22
                 clear c22
                 by_cases c23 : 0 ≤ x8_3
                 ·rw [if_pos c23] at H
                  have c23b0 : decide (0 ≤ x8_3) = true := decide_eq_true c23
                  clear c23
                  by_cases c24 : x8_3 < ((rd_L1 l0 x5_2).length : Int)
                  ·rw [if_pos c24] at H
                   have c24b0 : decide (x8_3 < ((rd_L1 l0 x5_2).length : Int)) = true := decide_eq_true c24
                   clear c24
                   by_cases c25 : x7_4 > (wrap64 ((t117.size : Int) - ((rdOf ByteArray.empty (rd_L1 l0 x5_2) x8_3).size : Int)))
                   ·rw [if_pos c25] at H
                    have c25b0 : decide ((wrap64 ((t117.size : Int) - ((rdOf ByteArray.empty (rd_L1 l0 x5_2) x8_3).size : Int))) < x7_4) = true := decide_eq_true c25
                    clear c25
                    obtain rfl := Option.some.inj H
                    have p120 : 0 ≤ (x5_2 : Int) := od_
                    have q120 : x5_2 < (l0.length : Int) := od_
                    obtain ⟨ad120, A120_0, c120_0, e120, hx120_0, hl120_0, hi120_0⟩ := at_L1 HR0.out x5_2 p120 q120
                    obtain rfl : ad119 = ad120 := (by injection e120)
                    replace hx120_0 := hx_ HB hx120_0
                    have HR120_0 := Aside0.mk hi120_0
                    have HC120_0 := Aside0.mk hl120_0
                    clear hi120_0 hl120_0
                    replace p120 := eq_true p120
                    replace q120 := eq_true q120
                    have p121 : 0 ≤ (x8_3 : Int) := od_
                    have q121 : x8_3 < ((rd_L1 l0 x5_2).length : Int) := od_
                    obtain ⟨ad121, e121, hx121_0⟩ := Kd.at_string HR120_0.out x8_3 p121 q121
                    cases e121
                    replace hx121_0 := hx_ HB hx121_0
                    replace p121 := eq_true p121
                    replace q121 := eq_true q121
                    go_wp2
                    go_ret
                    exact ⟨ae, bf HB⟩
                   ·rw [if_neg c25] at H
                    have c25b0 : decide ((wrap64 ((t117.size : Int) - ((rdOf ByteArray.empty (rd_L1 l0 x5_2) x8_3).size : Int))) < x7_4) = false := decide_eq_false c25
                    clear c25
                    by_cases c26 : 0 ≤ x7_4
                    ·rw [if_pos c26] at H
                     have c26b0 := eq_true c26
                     have c26b1 : decide (0 ≤ x7_4) = true := decide_eq_true c26
                     clear c26
                     by_cases c27 : x7_4 ≤ (wrap64 (x7_4 + ((rdOf ByteArray.empty (rd_L1 l0 x5_2) x8_3).size : Int)))
                     ·rw [if_pos c27] at H
                      have c27b0 := eq_true c27
                      have c27b1 : decide (x7_4 ≤ (wrap64 (x7_4 + ((rdOf ByteArray.empty (rd_L1 l0 x5_2) x8_3).size : Int)))) = true := decide_eq_true c27
                      by_cases c28 : (wrap64 (x7_4 + ((rdOf ByteArray.empty (rd_L1 l0 x5_2) x8_3).size : Int))) ≤ (t117.size : Int)
                      ·rw [if_pos c28] at H
                       have c28b0 := eq_true c28
                       have c28b1 : decide ((wrap64 (x7_4 + ((rdOf ByteArray.empty (rd_L1 l0 x5_2) x8_3).size : Int))) ≤ (t117.size : Int)) = true := decide_eq_true c28
                       by_cases c29 : (t117.extract (x7_4 : Int).toNat ((wrap64 (x7_4 + ((rdOf ByteArray.empty (rd_L1 l0 x5_2) x8_3).size : Int))) : Int).toNat).toList = (rdOf ByteArray.empty (rd_L1 l0 x5_2) x8_3).toList
                       ·rw [if_pos c29] at H
                        have c29b0 : ((t117.extract (x7_4 : Int).toNat ((wrap64 (x7_4 + ((rdOf ByteArray.empty (rd_L1 l0 x5_2) x8_3).size : Int))) : Int).toNat).toList == (rdOf ByteArray.empty (rd_L1 l0 x5_2) x8_3).toList) = true := beq_iff_eq.mpr c29
                        have c29b1 : ((t117.extract (x7_4 : Int).toNat ((wrap64 (x7_4 + ((rdOf ByteArray.empty (rd_L1 l0 x5_2) x8_3).size : Int))) : Int).toNat).toList != (rdOf ByteArray.empty (rd_L1 l0 x5_2) x8_3).toList) = false := bne_eq_false_iff_eq.mpr c29
                        clear c29
                        replace H := bi_ H; obtain ⟨t122, A30, H⟩ := H
                        (try dsimp only at H)
                        have H' := Aside0.mk H
                        clear H
                        have p120 : 0 ≤ (x5_2 : Int) := od_
                        have q120 : x5_2 < (l0.length : Int) := od_
                        obtain ⟨ad120, A120_0, c120_0, e120, hx120_0, hl120_0, hi120_0⟩ := at_L1 HR0.out x5_2 p120 q120
                        obtain rfl : ad119 = ad120 := (by injection e120)
                        replace hx120_0 := hx_ HB hx120_0
                        have HR120_0 := Aside0.mk hi120_0
                        have HC120_0 := Aside0.mk hl120_0
                        clear hi120_0 hl120_0
                        replace p120 := eq_true p120
                        replace q120 := eq_true q120
                        have p121 : 0 ≤ (x8_3 : Int) := od_
                        have q121 : x8_3 < ((rd_L1 l0 x5_2).length : Int) := od_
                        obtain ⟨ad121, e121, hx121_0⟩ := Kd.at_string HR120_0.out x8_3 p121 q121
                        cases e121
                        replace hx121_0 := hx_ HB hx121_0
                        replace p121 := eq_true p121
                        replace q121 := eq_true q121
                        go_wp2_with (first | ((with_reducible refine gc 8 rfl ?_); refine gm_ (some 86) rfl rfl Tryz.func8 (report_Width.calls _ _ _ _ _ _ _ ?side1 ?side2 A30.out) ag ?_; (case side1 => repeat (first | exact (Kd.C_below HR0.out HB.out) | (with_reducible refine Kd.C_alloc ?_ _) | (with_reducible refine Kd.C_drewN ?_ _) | (with_reducible refine Kd.C_drew ?_))); (case side2 => exact HC0.out); intro w31 hb; replace HB := bs HB hb; (try clear hb)))
                        go_roundg k4
                        case measure => have := HJ1.out; have := HK2.out; have := HK3.out; have := HK4.out; omega
                        case rel => exact ⟨(wrap64 (x6_3 + (wrap64 (t122 + 2)))), (wrap64 (x7_4 + ((rdOf ByteArray.empty (rd_L1 l0 x5_2) x8_3).size : Int))), (wrap64 (x8_3 + 1)), (aq), (aq), (aq), H', ⟨by have := HJ1.out; have := HK2.out; have := HK3.out; have := HK4.out; omega⟩, ⟨bf HB⟩⟩
                       ·rw [if_neg c29] at H
                        have c29b0 : ((t117.extract (x7_4 : Int).toNat ((wrap64 (x7_4 + ((rdOf ByteArray.empty (rd_L1 l0 x5_2) x8_3).size : Int))) : Int).toNat).toList == (rdOf ByteArray.empty (rd_L1 l0 x5_2) x8_3).toList) = false := beq_eq_false_iff_ne.mpr c29
                        have c29b1 : ((t117.extract (x7_4 : Int).toNat ((wrap64 (x7_4 + ((rdOf ByteArray.empty (rd_L1 l0 x5_2) x8_3).size : Int))) : Int).toNat).toList != (rdOf ByteArray.empty (rd_L1 l0 x5_2) x8_3).toList) = true := bne_iff_ne.mpr c29
                        obtain rfl := Option.some.inj H
                        have p120 : 0 ≤ (x5_2 : Int) := od_
                        have q120 : x5_2 < (l0.length : Int) := od_
                        obtain ⟨ad120, A120_0, c120_0, e120, hx120_0, hl120_0, hi120_0⟩ := at_L1 HR0.out x5_2 p120 q120
                        obtain rfl : ad119 = ad120 := (by injection e120)
                        replace hx120_0 := hx_ HB hx120_0
                        have HR120_0 := Aside0.mk hi120_0
                        have HC120_0 := Aside0.mk hl120_0
                        clear hi120_0 hl120_0
                        replace p120 := eq_true p120
                        replace q120 := eq_true q120
                        have p121 : 0 ≤ (x8_3 : Int) := od_
                        have q121 : x8_3 < ((rd_L1 l0 x5_2).length : Int) := od_
                        obtain ⟨ad121, e121, hx121_0⟩ := Kd.at_string HR120_0.out x8_3 p121 q121
                        cases e121
                        replace hx121_0 := hx_ HB hx121_0
                        replace p121 := eq_true p121
                        replace q121 := eq_true q121
                        go_wp2
                        go_ret
                        exact ⟨ae, bf HB⟩
                      ·rw [if_neg c28] at H
                       exact absurd H (by simp)
                     ·rw [if_neg c27] at H
                      exact absurd H (by simp)
                    ·rw [if_neg c26] at H
                     exact absurd H (by simp)
                  ·rw [if_neg c24] at H
                   exact absurd H (by simp)
                 ·rw [if_neg c23] at H
                  exact absurd H (by simp)
                ·rw [if_neg c22] at H
                 exact absurd H (by simp)
               ·rw [if_neg c21] at H
                exact absurd H (by simp)
           ·rw [if_neg c14] at H
            have c14b0 : decide (x8_3 < ((rd_L1 l0 x5_2).length : Int)) = false := decide_eq_false c14
            clear c14
            by_cases c32 : x7_3 ≥ (t117.size : Int)
            ·rw [if_pos c32] at H
             have c32b0 : decide ((t117.size : Int) ≤ x7_3) = true := decide_eq_true c32
             clear c32
             obtain rfl := Option.some.inj H
             have p119 : 0 ≤ (x5_2 : Int) := od_
             have q119 : x5_2 < (l0.length : Int) := od_
             obtain ⟨ad119, A119_0, c119_0, e119, hx119_0, hl119_0, hi119_0⟩ := at_L1 HR0.out x5_2 p119 q119
             cases e119
             replace hx119_0 := hx_ HB hx119_0
             have HR119_0 := Aside0.mk hi119_0
             have HC119_0 := Aside0.mk hl119_0
             clear hi119_0 hl119_0
             replace p119 := eq_true p119
             replace q119 := eq_true q119
             go_wp2
             go_ret
             exact ⟨ae, bf HB⟩
            ·rw [if_neg c32] at H
             have c32b0 : decide ((t117.size : Int) ≤ x7_3) = false := decide_eq_false c32
             clear c32
             by_cases c33 : 0 ≤ x7_3
             ·rw [if_pos c33] at H
              have c33b0 : decide (0 ≤ x7_3) = true := decide_eq_true c33
              clear c33
              by_cases c34 : x7_3 < (t117.size : Int)
              ·rw [if_pos c34] at H
               have c34b0 : decide (x7_3 < (t117.size : Int)) = true := decide_eq_true c34
               clear c34
               by_cases c36 : (bt t117 x7_3) = 10
               ·rw [if_pos c36] at H
                have c36b0 : ((bt t117 x7_3) == 10) = true := beq_iff_eq.mpr c36
                have c36b1 : ((bt t117 x7_3) != 10) = false := bne_eq_false_iff_eq.mpr c36
                clear c36
                have H' := Aside0.mk H
                clear H
                have p119 : 0 ≤ (x5_2 : Int) := od_
                have q119 : x5_2 < (l0.length : Int) := od_
                obtain ⟨ad119, A119_0, c119_0, e119, hx119_0, hl119_0, hi119_0⟩ := at_L1 HR0.out x5_2 p119 q119
                cases e119
                replace hx119_0 := hx_ HB hx119_0
                have HR119_0 := Aside0.mk hi119_0
                have HC119_0 := Aside0.mk hl119_0
                clear hi119_0 hl119_0
                replace p119 := eq_true p119
                replace q119 := eq_true q119
                have p35 : 0 ≤ (x7_3 : Int) := od_
                have q35 : x7_3 < (t117.size : Int) := od_
                have hx35 := bt_at t117 x7_3
                replace p35 := eq_true p35
                replace q35 := eq_true q35
                go_wp2
                go_roundg k3
                case measure => have := HJ1.out; have := HK2.out; have := HK3.out; omega
                case rel => exact ⟨(wrap64 (x7_3 + 1)), (wrap64 (x5_2 + 1)), (aq), (aq), H', ⟨by have := HJ1.out; have := HK2.out; have := HK3.out; omega⟩, ⟨bf HB⟩⟩
               ·rw [if_neg c36] at H
                have c36b0 : ((bt t117 x7_3) == 10) = false := beq_eq_false_iff_ne.mpr c36
                have c36b1 : ((bt t117 x7_3) != 10) = true := bne_iff_ne.mpr c36
                obtain rfl := Option.some.inj H
                have p119 : 0 ≤ (x5_2 : Int) := od_
                have q119 : x5_2 < (l0.length : Int) := od_
                obtain ⟨ad119, A119_0, c119_0, e119, hx119_0, hl119_0, hi119_0⟩ := at_L1 HR0.out x5_2 p119 q119
                cases e119
                replace hx119_0 := hx_ HB hx119_0
                have HR119_0 := Aside0.mk hi119_0
                have HC119_0 := Aside0.mk hl119_0
                clear hi119_0 hl119_0
                replace p119 := eq_true p119
                replace q119 := eq_true q119
                have p35 : 0 ≤ (x7_3 : Int) := od_
                have q35 : x7_3 < (t117.size : Int) := od_
                have hx35 := bt_at t117 x7_3
                replace p35 := eq_true p35
                replace q35 := eq_true q35
                go_wp2
                go_ret
                exact ⟨ae, bf HB⟩
              ·rw [if_neg c34] at H
               exact absurd H (by simp)
             ·rw [if_neg c33] at H
              exact absurd H (by simp)
          ·rw [if_neg c13] at H
           exact absurd H (by simp)
         ·rw [if_neg c12] at H
          exact absurd H (by simp)
      ·rw [if_neg c11] at H
       have c11b0 : decide (x5_2 < (l0.length : Int)) = false := decide_eq_false c11
       clear c11
       by_cases c37 : x4_2 = (t117.size : Int)
       ·rw [if_pos c37] at H
        have c37b0 : (x4_2 == (t117.size : Int)) = true := beq_iff_eq.mpr c37
        have c37b1 : (x4_2 != (t117.size : Int)) = false := bne_eq_false_iff_eq.mpr c37
        clear c37
        replace H := bi_ H; obtain ⟨t118, A38, H⟩ := H
        (try dsimp only at H)
        obtain rfl := Option.some.inj H
        go_wp2_with (first | (go_at_call 10; (with_reducible refine (carrefourlaw29_awake.calls _ _ A38.out (tt GT)).mono ?_); rintro e w39 ⟨rfl, hb⟩; replace HB := bs HB hb; (try clear hb)))
        go_ret
        exact ⟨ae, bf HB⟩
       ·rw [if_neg c37] at H
        have c37b0 : (x4_2 == (t117.size : Int)) = false := beq_eq_false_iff_ne.mpr c37
        have c37b1 : (x4_2 != (t117.size : Int)) = true := bne_iff_ne.mpr c37
        obtain rfl := Option.some.inj H
        go_wp2
        go_ret
        exact ⟨ae, bf HB⟩

end Go.Proofs.YtkbffpadkdgbmaaGreatDoor.X
