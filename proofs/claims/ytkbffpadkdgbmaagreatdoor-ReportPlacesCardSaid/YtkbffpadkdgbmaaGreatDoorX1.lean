/- Walks: each '.calls' says that the Go function comes to what its Lean function tells. Conditions: as each theorem's head says. -/
import Derived.Test.YtkbffpadkdgbmaaGreatDoorXD
import Derived.Test.YtkbffpadkdgbmaaGreatDoorX0
namespace Go.Proofs.YtkbffpadkdgbmaaGreatDoor.X
open Go.RowKit Go.Proofs.YtkbffpadkdgbmaaGreatDoorW.PrintWords Go.Proofs.YtkbffpadkdgbmaaGreatDoorW.PrintLast Go.Proofs.YtkbffpadkdgbmaaGreatDoorW.PrintMore
attribute [local go_sem] max2_int min2_int max_two min_two max_three min_three max_four min_four   -- for this text's walks alone
set_option linter.unusedVariables false
set_option maxHeartbeats 8000000
set_option maxRecDepth 100000
set_option linter.unusedSimpArgs false

/-! ### carrefourlaw29_few: function 5 -/
theorem carrefourlaw29_few.calls (k : Nat) (A0 : Option Addr) (c0 : Nat) (l0 : List (List ByteArray)) (r : Bool) (w : World) (hr0 : Kd.C (Kd.slice 9 Kd.string) w A0 l0.length l0) (hc0 : l0.length ≤ c0) (h : carrefourlaw29_few.f k l0 = some r) :
  Calls Tryz.prog 5 #[.slice A0 l0.length c0] w fun e w' => e = .returned (.bool r) ∧ Drawn0 w w' := by
 have HR0 := Aside0.mk hr0
 have HC0 := Aside0.mk hc0
 clear hr0 hc0
 have H : (if (l0.length : Int) > 40 then (some false) else (carrefourlaw29_few.l0 k l0 0)) = some r := h
 clear h
 by_cases c2 : (l0.length : Int) > 40
 ·rw [if_pos c2] at H
  have c2b0 : decide (40 < (l0.length : Int)) = true := decide_eq_true c2
  have c2b1 : decide (40 < l0.length) = true := decide_eq_true (by omega)
  clear c2
  obtain rfl := Option.some.inj H
  go_enter Tryz.func5, Tryz.ntmps5
  go_wp2
  go_ret
  exact ⟨aq, dr⟩
 ·rw [if_neg c2] at H
  have c2b0 : decide (40 < (l0.length : Int)) = false := decide_eq_false c2
  have c2b1 : decide (40 < l0.length) = false := decide_eq_false (by omega)
  clear c2
  have H' := Aside0.mk H
  clear H
  go_enter Tryz.func5, Tryz.ntmps5
  go_wp2
  go_loopg [3] k (fun kq v3 w' => ∃ (x3_1 : Int), v3 = .int .i64 x3_1 ∧ Aside0 (carrefourlaw29_few.l0 kq l0 x3_1 = some r) ∧ Aside0 (kq ≤ k) ∧ Drawn0 w w')
  case atStart => exact ⟨(0), (aq), H', ⟨Nat.le_refl _⟩, dr⟩
  case round =>
   clear H'
   (try clear c2); (try clear c2b0); (try clear c2b1); (try clear p2)
   obtain ⟨x3_1, rfl, HA, HK1, ⟨m1, rfl⟩⟩ := hrel
   cases gk with
   | zero => exact absurd HA.out (by simp [carrefourlaw29_few.l0])
   | succ k1 =>
    have H := HA.out
    clear HA
    simp only [carrefourlaw29_few.l0] at H
    by_cases c3 : x3_1 < (l0.length : Int)
    ·rw [if_pos c3] at H
     have c3b0 : decide (x3_1 < (l0.length : Int)) = true := decide_eq_true c3
     clear c3
     by_cases c4 : 0 ≤ x3_1
     ·rw [if_pos c4] at H
      have c4b0 : decide (0 ≤ x3_1) = true := decide_eq_true c4
      clear c4
      by_cases c5 : ((rd_L1 l0 x3_1).length : Int) > 20
      ·rw [if_pos c5] at H
       have c5b0 : decide (20 < ((rd_L1 l0 x3_1).length : Int)) = true := decide_eq_true c5
       have c5b1 : decide (20 < (rd_L1 l0 x3_1).length) = true := decide_eq_true (by omega)
       clear c5
       obtain rfl := Option.some.inj H
       have p101 : 0 ≤ (x3_1 : Int) := od_
       have q101 : x3_1 < (l0.length : Int) := od_
       obtain ⟨ad101, A101_0, c101_0, e101, hx101_0, hl101_0, hi101_0⟩ := at_L1 HR0.out x3_1 p101 q101
       cases e101
       have HR101_0 := Aside0.mk hi101_0
       have HC101_0 := Aside0.mk hl101_0
       clear hi101_0 hl101_0
       replace p101 := eq_true p101
       replace q101 := eq_true q101
       go_wp2
       go_ret
       exact ⟨aq, dr⟩
      ·rw [if_neg c5] at H
       have c5b0 : decide (20 < ((rd_L1 l0 x3_1).length : Int)) = false := decide_eq_false c5
       have c5b1 : decide (20 < (rd_L1 l0 x3_1).length) = false := decide_eq_false (by omega)
       clear c5
       have H' := Aside0.mk H
       clear H
       have p101 : 0 ≤ (x3_1 : Int) := od_
       have q101 : x3_1 < (l0.length : Int) := od_
       obtain ⟨ad101, A101_0, c101_0, e101, hx101_0, hl101_0, hi101_0⟩ := at_L1 HR0.out x3_1 p101 q101
       cases e101
       have HR101_0 := Aside0.mk hi101_0
       have HC101_0 := Aside0.mk hl101_0
       clear hi101_0 hl101_0
       replace p101 := eq_true p101
       replace q101 := eq_true q101
       go_wp2
       go_loopg [4] k1 (fun kq v4 w' => ∃ (x4_2 : Int), v4 = .int .i64 x4_2 ∧ Aside0 (carrefourlaw29_few.l1 kq l0 x3_1 x4_2 = some r) ∧ Aside0 (kq ≤ k1) ∧ Drawn0 w w')
       case atStart => exact ⟨(0), (aq), H', ⟨Nat.le_refl _⟩, dr⟩
       case round =>
        clear H'
        (try clear c1); (try clear p1); (try clear q1); (try clear hx1); (try clear c2); (try clear c2b0); (try clear c2b1); (try clear p2); (try clear c3); (try clear c3b0); (try clear c4); (try clear c4b0); (try clear c5); (try clear c5b0); (try clear c5b1); (try clear hx101_0); (try clear p101); (try clear p2); (try clear q101)
        obtain ⟨x4_2, rfl, HA, HK2, ⟨m2, rfl⟩⟩ := hrel
        cases gk with
        | zero => exact absurd HA.out (by simp [carrefourlaw29_few.l1])
        | succ k2 =>
         have H := HA.out
         clear HA
         simp only [carrefourlaw29_few.l1] at H
         by_cases c6 : 0 ≤ x3_1
         ·rw [if_pos c6] at H
          have c6b0 : decide (0 ≤ x3_1) = true := decide_eq_true c6
          clear c6
          by_cases c7 : x3_1 < (l0.length : Int)
          ·rw [if_pos c7] at H
           have c7b0 : decide (x3_1 < (l0.length : Int)) = true := decide_eq_true c7
           clear c7
           by_cases c8 : x4_2 < ((rd_L1 l0 x3_1).length : Int)
           ·rw [if_pos c8] at H
            have c8b0 : decide (x4_2 < ((rd_L1 l0 x3_1).length : Int)) = true := decide_eq_true c8
            clear c8
            by_cases c9 : 0 ≤ x4_2
            ·rw [if_pos c9] at H
             have c9b0 : decide (0 ≤ x4_2) = true := decide_eq_true c9
             clear c9
             by_cases c10 : ((rdOf ByteArray.empty (rd_L1 l0 x3_1) x4_2).size : Int) > 100
             ·rw [if_pos c10] at H
              have c10b0 : decide (100 < ((rdOf ByteArray.empty (rd_L1 l0 x3_1) x4_2).size : Int)) = true := decide_eq_true c10
              have c10b1 : decide (100 < (rdOf ByteArray.empty (rd_L1 l0 x3_1) x4_2).size) = true := decide_eq_true (by omega)
              clear c10
              obtain rfl := Option.some.inj H
              have p102 : 0 ≤ (x3_1 : Int) := od_
              have q102 : x3_1 < (l0.length : Int) := od_
              obtain ⟨ad102, A102_0, c102_0, e102, hx102_0, hl102_0, hi102_0⟩ := at_L1 HR0.out x3_1 p102 q102
              obtain rfl : ad101 = ad102 := (by injection e102)
              have HR102_0 := Aside0.mk hi102_0
              have HC102_0 := Aside0.mk hl102_0
              clear hi102_0 hl102_0
              replace p102 := eq_true p102
              replace q102 := eq_true q102
              have p103 : 0 ≤ (x3_1 : Int) := od_
              have q103 : x3_1 < (l0.length : Int) := od_
              obtain ⟨ad103, A103_0, c103_0, e103, hx103_0, hl103_0, hi103_0⟩ := at_L1 HR0.out x3_1 p103 q103
              obtain rfl : ad101 = ad103 := (by injection e103)
              have HR103_0 := Aside0.mk hi103_0
              have HC103_0 := Aside0.mk hl103_0
              clear hi103_0 hl103_0
              replace p103 := eq_true p103
              replace q103 := eq_true q103
              have ea_ := Option.some.inj (hx102_0.symm.trans hx103_0)
              injection ea_ with ea_ en_ ec_
              subst ea_
              subst ec_
              clear en_
              have p104 : 0 ≤ (x4_2 : Int) := od_
              have q104 : x4_2 < ((rd_L1 l0 x3_1).length : Int) := od_
              obtain ⟨ad104, e104, hx104_0⟩ := Kd.at_string HR103_0.out x4_2 p104 q104
              cases e104
              replace p104 := eq_true p104
              replace q104 := eq_true q104
              go_wp2
              go_ret
              exact ⟨aq, dr⟩
             ·rw [if_neg c10] at H
              have c10b0 : decide (100 < ((rdOf ByteArray.empty (rd_L1 l0 x3_1) x4_2).size : Int)) = false := decide_eq_false c10
              have c10b1 : decide (100 < (rdOf ByteArray.empty (rd_L1 l0 x3_1) x4_2).size) = false := decide_eq_false (by omega)
              clear c10
              have H' := Aside0.mk H
              clear H
              have p102 : 0 ≤ (x3_1 : Int) := od_
              have q102 : x3_1 < (l0.length : Int) := od_
              obtain ⟨ad102, A102_0, c102_0, e102, hx102_0, hl102_0, hi102_0⟩ := at_L1 HR0.out x3_1 p102 q102
              obtain rfl : ad101 = ad102 := (by injection e102)
              have HR102_0 := Aside0.mk hi102_0
              have HC102_0 := Aside0.mk hl102_0
              clear hi102_0 hl102_0
              replace p102 := eq_true p102
              replace q102 := eq_true q102
              have p103 : 0 ≤ (x3_1 : Int) := od_
              have q103 : x3_1 < (l0.length : Int) := od_
              obtain ⟨ad103, A103_0, c103_0, e103, hx103_0, hl103_0, hi103_0⟩ := at_L1 HR0.out x3_1 p103 q103
              obtain rfl : ad101 = ad103 := (by injection e103)
              have HR103_0 := Aside0.mk hi103_0
              have HC103_0 := Aside0.mk hl103_0
              clear hi103_0 hl103_0
              replace p103 := eq_true p103
              replace q103 := eq_true q103
              have ea_ := Option.some.inj (hx102_0.symm.trans hx103_0)
              injection ea_ with ea_ en_ ec_
              subst ea_
              subst ec_
              clear en_
              have p104 : 0 ≤ (x4_2 : Int) := od_
              have q104 : x4_2 < ((rd_L1 l0 x3_1).length : Int) := od_
              obtain ⟨ad104, e104, hx104_0⟩ := Kd.at_string HR103_0.out x4_2 p104 q104
              cases e104
              replace p104 := eq_true p104
              replace q104 := eq_true q104
              go_wp2
              go_roundg k2
              case measure => have := HK1.out; have := HK2.out; omega
              case rel => exact ⟨(wrap64 (x4_2 + 1)), (aq), H', ⟨by have := HK1.out; have := HK2.out; omega⟩, dr⟩
            ·rw [if_neg c9] at H
             exact absurd H (by simp)
           ·rw [if_neg c8] at H
            have c8b0 : decide (x4_2 < ((rd_L1 l0 x3_1).length : Int)) = false := decide_eq_false c8
            clear c8
            have H' := Aside0.mk H
            clear H
            have p102 : 0 ≤ (x3_1 : Int) := od_
            have q102 : x3_1 < (l0.length : Int) := od_
            obtain ⟨ad102, A102_0, c102_0, e102, hx102_0, hl102_0, hi102_0⟩ := at_L1 HR0.out x3_1 p102 q102
            obtain rfl : ad101 = ad102 := (by injection e102)
            have HR102_0 := Aside0.mk hi102_0
            have HC102_0 := Aside0.mk hl102_0
            clear hi102_0 hl102_0
            replace p102 := eq_true p102
            replace q102 := eq_true q102
            go_wp2
            go_roundg k2
            case measure => have := HK1.out; have := HK2.out; omega
            case rel => exact ⟨(wrap64 (x3_1 + 1)), (aq), H', ⟨by have := HK1.out; have := HK2.out; omega⟩, dr⟩
          ·rw [if_neg c7] at H
           exact absurd H (by simp)
         ·rw [if_neg c6] at H
          exact absurd H (by simp)
     ·rw [if_neg c4] at H
      exact absurd H (by simp)
    ·rw [if_neg c3] at H
     have c3b0 : decide (x3_1 < (l0.length : Int)) = false := decide_eq_false c3
     clear c3
     obtain rfl := Option.some.inj H
     go_wp2
     go_ret
     exact ⟨aq, dr⟩


/-! ### report_Table: function 6 -/
/-! ### report_Width: function 8 -/
/-! ### carrefourlaw29_awake: function 10 -/
/-! ### carrefourlaw29_plain: function 11 -/
theorem carrefourlaw29_plain.calls (k : Nat) (A0 : Option Addr) (c0 : Nat) (l0 : List (List ByteArray)) (r : Bool) (w : World) (hr0 : Kd.C (Kd.slice 9 Kd.string) w A0 l0.length l0) (hc0 : l0.length ≤ c0) (h : carrefourlaw29_plain.f k l0 = some r) :
  Calls Tryz.prog 11 #[.slice A0 l0.length c0] w fun e w' => e = .returned (.bool r) ∧ Drawn0 w w' := by
 have HR0 := Aside0.mk hr0
 have HC0 := Aside0.mk hc0
 clear hr0 hc0
 have H : (carrefourlaw29_plain.l0 k l0 0) = some r := h
 clear h
 have H' := Aside0.mk H
 clear H
 go_enter Tryz.func11, Tryz.ntmps11
 go_wp2
 go_loopg [3] k (fun kq v3 w' => ∃ (x3_1 : Int), v3 = .int .i64 x3_1 ∧ Aside0 (carrefourlaw29_plain.l0 kq l0 x3_1 = some r) ∧ Aside0 (kq ≤ k) ∧ Drawn0 w w')
 case atStart => exact ⟨(0), (aq), H', ⟨Nat.le_refl _⟩, dr⟩
 case round =>
  clear H'
  (try clear c1)
  obtain ⟨x3_1, rfl, HA, HK1, ⟨m1, rfl⟩⟩ := hrel
  cases gk with
  | zero => exact absurd HA.out (by simp [carrefourlaw29_plain.l0])
  | succ k1 =>
   have H := HA.out
   clear HA
   simp only [carrefourlaw29_plain.l0] at H
   by_cases c2 : x3_1 < (l0.length : Int)
   ·rw [if_pos c2] at H
    have c2b0 : decide (x3_1 < (l0.length : Int)) = true := decide_eq_true c2
    clear c2
    have H' := Aside0.mk H
    clear H
    go_wp2
    go_loopg [4] k1 (fun kq v4 w' => ∃ (x4_2 : Int), v4 = .int .i64 x4_2 ∧ Aside0 (carrefourlaw29_plain.l1 kq l0 x3_1 x4_2 = some r) ∧ Aside0 (kq ≤ k1) ∧ Drawn0 w w')
    case atStart => exact ⟨(0), (aq), H', ⟨Nat.le_refl _⟩, dr⟩
    case round =>
     clear H'
     (try clear c1); (try clear c2); (try clear c2b0); (try clear p2)
     obtain ⟨x4_2, rfl, HA, HK2, ⟨m2, rfl⟩⟩ := hrel
     cases gk with
     | zero => exact absurd HA.out (by simp [carrefourlaw29_plain.l1])
     | succ k2 =>
      have H := HA.out
      clear HA
      simp only [carrefourlaw29_plain.l1] at H
      by_cases c3 : 0 ≤ x3_1
      ·rw [if_pos c3] at H
       have c3b0 : decide (0 ≤ x3_1) = true := decide_eq_true c3
       clear c3
       by_cases c4 : x3_1 < (l0.length : Int)
       ·rw [if_pos c4] at H
        have c4b0 : decide (x3_1 < (l0.length : Int)) = true := decide_eq_true c4
        clear c4
        by_cases c5 : x4_2 < ((rd_L1 l0 x3_1).length : Int)
        ·rw [if_pos c5] at H
         have c5b0 : decide (x4_2 < ((rd_L1 l0 x3_1).length : Int)) = true := decide_eq_true c5
         clear c5
         by_cases c6 : 0 ≤ x4_2
         ·rw [if_pos c6] at H
          have c6b0 : decide (0 ≤ x4_2) = true := decide_eq_true c6
          clear c6
          by_cases c7 : (rdOf ByteArray.empty (rd_L1 l0 x3_1) x4_2).toList = ([] : List UInt8)
          ·rw [if_pos c7] at H
           have c7b0 : ((rdOf ByteArray.empty (rd_L1 l0 x3_1) x4_2).toList == ([] : List UInt8)) = true := beq_iff_eq.mpr c7
           have c7b1 : ((rdOf ByteArray.empty (rd_L1 l0 x3_1) x4_2).toList != ([] : List UInt8)) = false := bne_eq_false_iff_eq.mpr c7
           clear c7
           obtain rfl := Option.some.inj H
           have p105 : 0 ≤ (x3_1 : Int) := od_
           have q105 : x3_1 < (l0.length : Int) := od_
           obtain ⟨ad105, A105_0, c105_0, e105, hx105_0, hl105_0, hi105_0⟩ := at_L1 HR0.out x3_1 p105 q105
           cases e105
           have HR105_0 := Aside0.mk hi105_0
           have HC105_0 := Aside0.mk hl105_0
           clear hi105_0 hl105_0
           replace p105 := eq_true p105
           replace q105 := eq_true q105
           have p106 : 0 ≤ (x3_1 : Int) := od_
           have q106 : x3_1 < (l0.length : Int) := od_
           obtain ⟨ad106, A106_0, c106_0, e106, hx106_0, hl106_0, hi106_0⟩ := at_L1 HR0.out x3_1 p106 q106
           obtain rfl : ad105 = ad106 := (by injection e106)
           have HR106_0 := Aside0.mk hi106_0
           have HC106_0 := Aside0.mk hl106_0
           clear hi106_0 hl106_0
           replace p106 := eq_true p106
           replace q106 := eq_true q106
           have ea_ := Option.some.inj (hx105_0.symm.trans hx106_0)
           injection ea_ with ea_ en_ ec_
           subst ea_
           subst ec_
           clear en_
           have p107 : 0 ≤ (x4_2 : Int) := od_
           have q107 : x4_2 < ((rd_L1 l0 x3_1).length : Int) := od_
           obtain ⟨ad107, e107, hx107_0⟩ := Kd.at_string HR106_0.out x4_2 p107 q107
           cases e107
           replace p107 := eq_true p107
           replace q107 := eq_true q107
           go_wp2
           go_ret
           exact ⟨aq, dr⟩
          ·rw [if_neg c7] at H
           have c7b0 : ((rdOf ByteArray.empty (rd_L1 l0 x3_1) x4_2).toList == ([] : List UInt8)) = false := beq_eq_false_iff_ne.mpr c7
           have c7b1 : ((rdOf ByteArray.empty (rd_L1 l0 x3_1) x4_2).toList != ([] : List UInt8)) = true := bne_iff_ne.mpr c7
           have H' := Aside0.mk H
           clear H
           have p105 : 0 ≤ (x3_1 : Int) := od_
           have q105 : x3_1 < (l0.length : Int) := od_
           obtain ⟨ad105, A105_0, c105_0, e105, hx105_0, hl105_0, hi105_0⟩ := at_L1 HR0.out x3_1 p105 q105
           cases e105
           have HR105_0 := Aside0.mk hi105_0
           have HC105_0 := Aside0.mk hl105_0
           clear hi105_0 hl105_0
           replace p105 := eq_true p105
           replace q105 := eq_true q105
           have p106 : 0 ≤ (x3_1 : Int) := od_
           have q106 : x3_1 < (l0.length : Int) := od_
           obtain ⟨ad106, A106_0, c106_0, e106, hx106_0, hl106_0, hi106_0⟩ := at_L1 HR0.out x3_1 p106 q106
           obtain rfl : ad105 = ad106 := (by injection e106)
           have HR106_0 := Aside0.mk hi106_0
           have HC106_0 := Aside0.mk hl106_0
           clear hi106_0 hl106_0
           replace p106 := eq_true p106
           replace q106 := eq_true q106
           have ea_ := Option.some.inj (hx105_0.symm.trans hx106_0)
           injection ea_ with ea_ en_ ec_
           subst ea_
           subst ec_
           clear en_
           have p107 : 0 ≤ (x4_2 : Int) := od_
           have q107 : x4_2 < ((rd_L1 l0 x3_1).length : Int) := od_
           obtain ⟨ad107, e107, hx107_0⟩ := Kd.at_string HR106_0.out x4_2 p107 q107
           cases e107
           replace p107 := eq_true p107
           replace q107 := eq_true q107
           go_wp2
           go_loopg [5] k2 (fun kq v5 w' => ∃ (x5_3 : Int), v5 = .int .i64 x5_3 ∧ Aside0 (carrefourlaw29_plain.l2 kq l0 x3_1 x4_2 x5_3 = some r) ∧ Aside0 (kq ≤ k2) ∧ Drawn0 w w')
           case atStart => exact ⟨(0), (aq), H', ⟨Nat.le_refl _⟩, dr⟩
           case round =>
            clear H'
            (try clear c1); (try clear p1); (try clear q1); (try clear hx1); (try clear c2); (try clear c2b0); (try clear p2); (try clear c3); (try clear c3b0); (try clear c4); (try clear c4b0); (try clear c5); (try clear c5b0); (try clear c6); (try clear c6b0); (try clear c7); (try clear c7b0); (try clear c7b1); (try clear hx105_0); (try clear hx106_0); (try clear hx107_0); (try clear p105); (try clear p106); (try clear p107); (try clear p2); (try clear q105); (try clear q106); (try clear q107)
            obtain ⟨x5_3, rfl, HA, HK3, ⟨m3, rfl⟩⟩ := hrel
            cases gk with
            | zero => exact absurd HA.out (by simp [carrefourlaw29_plain.l2])
            | succ k3 =>
             have H := HA.out
             clear HA
             simp only [carrefourlaw29_plain.l2] at H
             by_cases c8 : 0 ≤ x3_1
             ·rw [if_pos c8] at H
              have c8b0 : decide (0 ≤ x3_1) = true := decide_eq_true c8
              clear c8
              by_cases c9 : x3_1 < (l0.length : Int)
              ·rw [if_pos c9] at H
               have c9b0 : decide (x3_1 < (l0.length : Int)) = true := decide_eq_true c9
               clear c9
               by_cases c10 : 0 ≤ x4_2
               ·rw [if_pos c10] at H
                have c10b0 : decide (0 ≤ x4_2) = true := decide_eq_true c10
                clear c10
                by_cases c11 : x4_2 < ((rd_L1 l0 x3_1).length : Int)
                ·rw [if_pos c11] at H
                 have c11b0 : decide (x4_2 < ((rd_L1 l0 x3_1).length : Int)) = true := decide_eq_true c11
                 clear c11
                 by_cases c12 : x5_3 < ((rdOf ByteArray.empty (rd_L1 l0 x3_1) x4_2).size : Int)
                 ·rw [if_pos c12] at H
                  have c12b0 : decide (x5_3 < ((rdOf ByteArray.empty (rd_L1 l0 x3_1) x4_2).size : Int)) = true := decide_eq_true c12
                  clear c12
                  by_cases c13 : 0 ≤ x5_3
                  ·rw [if_pos c13] at H
                   have c13b0 : decide (0 ≤ x5_3) = true := decide_eq_true c13
                   clear c13
                   by_cases c15 : (bt (rdOf ByteArray.empty (rd_L1 l0 x3_1) x4_2) x5_3) = 10
                   ·rw [if_pos c15] at H
                    have c15b0 : ((bt (rdOf ByteArray.empty (rd_L1 l0 x3_1) x4_2) x5_3) == 10) = true := beq_iff_eq.mpr c15
                    have c15b1 : ((bt (rdOf ByteArray.empty (rd_L1 l0 x3_1) x4_2) x5_3) != 10) = false := bne_eq_false_iff_eq.mpr c15
                    clear c15
                    obtain rfl := Option.some.inj H
                    have p108 : 0 ≤ (x3_1 : Int) := od_
                    have q108 : x3_1 < (l0.length : Int) := od_
                    obtain ⟨ad108, A108_0, c108_0, e108, hx108_0, hl108_0, hi108_0⟩ := at_L1 HR0.out x3_1 p108 q108
                    obtain rfl : ad105 = ad108 := (by injection e108)
                    have HR108_0 := Aside0.mk hi108_0
                    have HC108_0 := Aside0.mk hl108_0
                    clear hi108_0 hl108_0
                    replace p108 := eq_true p108
                    replace q108 := eq_true q108
                    have p109 : 0 ≤ (x4_2 : Int) := od_
                    have q109 : x4_2 < ((rd_L1 l0 x3_1).length : Int) := od_
                    obtain ⟨ad109, e109, hx109_0⟩ := Kd.at_string HR108_0.out x4_2 p109 q109
                    cases e109
                    replace p109 := eq_true p109
                    replace q109 := eq_true q109
                    have p110 : 0 ≤ (x3_1 : Int) := od_
                    have q110 : x3_1 < (l0.length : Int) := od_
                    obtain ⟨ad110, A110_0, c110_0, e110, hx110_0, hl110_0, hi110_0⟩ := at_L1 HR0.out x3_1 p110 q110
                    obtain rfl : ad105 = ad110 := (by injection e110)
                    have HR110_0 := Aside0.mk hi110_0
                    have HC110_0 := Aside0.mk hl110_0
                    clear hi110_0 hl110_0
                    replace p110 := eq_true p110
                    replace q110 := eq_true q110
                    have ea_ := Option.some.inj (hx108_0.symm.trans hx110_0)
                    injection ea_ with ea_ en_ ec_
                    subst ea_
                    subst ec_
                    clear en_
                    have p111 : 0 ≤ (x4_2 : Int) := od_
                    have q111 : x4_2 < ((rd_L1 l0 x3_1).length : Int) := od_
                    obtain ⟨ad111, e111, hx111_0⟩ := Kd.at_string HR110_0.out x4_2 p111 q111
                    cases e111
                    replace p111 := eq_true p111
                    replace q111 := eq_true q111
                    have p14 : 0 ≤ (x5_3 : Int) := od_
                    have q14 : x5_3 < ((rdOf ByteArray.empty (rd_L1 l0 x3_1) x4_2).size : Int) := od_
                    have hx14 := bt_at (rdOf ByteArray.empty (rd_L1 l0 x3_1) x4_2) x5_3
                    replace p14 := eq_true p14
                    replace q14 := eq_true q14
                    go_wp2
                    go_ret
                    exact ⟨aq, dr⟩
                   ·rw [if_neg c15] at H
                    have c15b0 : ((bt (rdOf ByteArray.empty (rd_L1 l0 x3_1) x4_2) x5_3) == 10) = false := beq_eq_false_iff_ne.mpr c15
                    have c15b1 : ((bt (rdOf ByteArray.empty (rd_L1 l0 x3_1) x4_2) x5_3) != 10) = true := bne_iff_ne.mpr c15
                    by_cases c17 : (bt (rdOf ByteArray.empty (rd_L1 l0 x3_1) x4_2) x5_3) = 32
                    ·rw [if_pos c17] at H
                     have c17b0 : ((bt (rdOf ByteArray.empty (rd_L1 l0 x3_1) x4_2) x5_3) == 32) = true := beq_iff_eq.mpr c17
                     have c17b1 : ((bt (rdOf ByteArray.empty (rd_L1 l0 x3_1) x4_2) x5_3) != 32) = false := bne_eq_false_iff_eq.mpr c17
                     clear c17
                     obtain rfl := Option.some.inj H
                     have p108 : 0 ≤ (x3_1 : Int) := od_
                     have q108 : x3_1 < (l0.length : Int) := od_
                     obtain ⟨ad108, A108_0, c108_0, e108, hx108_0, hl108_0, hi108_0⟩ := at_L1 HR0.out x3_1 p108 q108
                     obtain rfl : ad105 = ad108 := (by injection e108)
                     have HR108_0 := Aside0.mk hi108_0
                     have HC108_0 := Aside0.mk hl108_0
                     clear hi108_0 hl108_0
                     replace p108 := eq_true p108
                     replace q108 := eq_true q108
                     have p109 : 0 ≤ (x4_2 : Int) := od_
                     have q109 : x4_2 < ((rd_L1 l0 x3_1).length : Int) := od_
                     obtain ⟨ad109, e109, hx109_0⟩ := Kd.at_string HR108_0.out x4_2 p109 q109
                     cases e109
                     replace p109 := eq_true p109
                     replace q109 := eq_true q109
                     have p110 : 0 ≤ (x3_1 : Int) := od_
                     have q110 : x3_1 < (l0.length : Int) := od_
                     obtain ⟨ad110, A110_0, c110_0, e110, hx110_0, hl110_0, hi110_0⟩ := at_L1 HR0.out x3_1 p110 q110
                     obtain rfl : ad105 = ad110 := (by injection e110)
                     have HR110_0 := Aside0.mk hi110_0
                     have HC110_0 := Aside0.mk hl110_0
                     clear hi110_0 hl110_0
                     replace p110 := eq_true p110
                     replace q110 := eq_true q110
                     have ea_ := Option.some.inj (hx108_0.symm.trans hx110_0)
                     injection ea_ with ea_ en_ ec_
                     subst ea_
                     subst ec_
                     clear en_
                     have p111 : 0 ≤ (x4_2 : Int) := od_
                     have q111 : x4_2 < ((rd_L1 l0 x3_1).length : Int) := od_
                     obtain ⟨ad111, e111, hx111_0⟩ := Kd.at_string HR110_0.out x4_2 p111 q111
                     cases e111
                     replace p111 := eq_true p111
                     replace q111 := eq_true q111
                     have p14 : 0 ≤ (x5_3 : Int) := od_
                     have q14 : x5_3 < ((rdOf ByteArray.empty (rd_L1 l0 x3_1) x4_2).size : Int) := od_
                     have hx14 := bt_at (rdOf ByteArray.empty (rd_L1 l0 x3_1) x4_2) x5_3
                     replace p14 := eq_true p14
                     replace q14 := eq_true q14
                     have p112 : 0 ≤ (x3_1 : Int) := od_
                     have q112 : x3_1 < (l0.length : Int) := od_
                     obtain ⟨ad112, A112_0, c112_0, e112, hx112_0, hl112_0, hi112_0⟩ := at_L1 HR0.out x3_1 p112 q112
                     obtain rfl : ad105 = ad112 := (by injection e112)
                     have HR112_0 := Aside0.mk hi112_0
                     have HC112_0 := Aside0.mk hl112_0
                     clear hi112_0 hl112_0
                     replace p112 := eq_true p112
                     replace q112 := eq_true q112
                     have ea_ := Option.some.inj (hx108_0.symm.trans hx112_0)
                     injection ea_ with ea_ en_ ec_
                     subst ea_
                     subst ec_
                     clear en_
                     have p113 : 0 ≤ (x4_2 : Int) := od_
                     have q113 : x4_2 < ((rd_L1 l0 x3_1).length : Int) := od_
                     obtain ⟨ad113, e113, hx113_0⟩ := Kd.at_string HR112_0.out x4_2 p113 q113
                     cases e113
                     replace p113 := eq_true p113
                     replace q113 := eq_true q113
                     have p16 : 0 ≤ (x5_3 : Int) := od_
                     have q16 : x5_3 < ((rdOf ByteArray.empty (rd_L1 l0 x3_1) x4_2).size : Int) := od_
                     have hx16 := bt_at (rdOf ByteArray.empty (rd_L1 l0 x3_1) x4_2) x5_3
                     replace p16 := eq_true p16
                     replace q16 := eq_true q16
                     go_wp2
                     go_ret
                     exact ⟨aq, dr⟩
                    ·rw [if_neg c17] at H
                     have c17b0 : ((bt (rdOf ByteArray.empty (rd_L1 l0 x3_1) x4_2) x5_3) == 32) = false := beq_eq_false_iff_ne.mpr c17
                     have c17b1 : ((bt (rdOf ByteArray.empty (rd_L1 l0 x3_1) x4_2) x5_3) != 32) = true := bne_iff_ne.mpr c17
                     have H' := Aside0.mk H
                     clear H
                     have p108 : 0 ≤ (x3_1 : Int) := od_
                     have q108 : x3_1 < (l0.length : Int) := od_
                     obtain ⟨ad108, A108_0, c108_0, e108, hx108_0, hl108_0, hi108_0⟩ := at_L1 HR0.out x3_1 p108 q108
                     obtain rfl : ad105 = ad108 := (by injection e108)
                     have HR108_0 := Aside0.mk hi108_0
                     have HC108_0 := Aside0.mk hl108_0
                     clear hi108_0 hl108_0
                     replace p108 := eq_true p108
                     replace q108 := eq_true q108
                     have p109 : 0 ≤ (x4_2 : Int) := od_
                     have q109 : x4_2 < ((rd_L1 l0 x3_1).length : Int) := od_
                     obtain ⟨ad109, e109, hx109_0⟩ := Kd.at_string HR108_0.out x4_2 p109 q109
                     cases e109
                     replace p109 := eq_true p109
                     replace q109 := eq_true q109
                     have p110 : 0 ≤ (x3_1 : Int) := od_
                     have q110 : x3_1 < (l0.length : Int) := od_
                     obtain ⟨ad110, A110_0, c110_0, e110, hx110_0, hl110_0, hi110_0⟩ := at_L1 HR0.out x3_1 p110 q110
                     obtain rfl : ad105 = ad110 := (by injection e110)
                     have HR110_0 := Aside0.mk hi110_0
                     have HC110_0 := Aside0.mk hl110_0
                     clear hi110_0 hl110_0
                     replace p110 := eq_true p110
                     replace q110 := eq_true q110
                     have ea_ := Option.some.inj (hx108_0.symm.trans hx110_0)
                     injection ea_ with ea_ en_ ec_
                     subst ea_
                     subst ec_
                     clear en_
                     have p111 : 0 ≤ (x4_2 : Int) := od_
                     have q111 : x4_2 < ((rd_L1 l0 x3_1).length : Int) := od_
                     obtain ⟨ad111, e111, hx111_0⟩ := Kd.at_string HR110_0.out x4_2 p111 q111
                     cases e111
                     replace p111 := eq_true p111
                     replace q111 := eq_true q111
                     have p14 : 0 ≤ (x5_3 : Int) := od_
                     have q14 : x5_3 < ((rdOf ByteArray.empty (rd_L1 l0 x3_1) x4_2).size : Int) := od_
                     have hx14 := bt_at (rdOf ByteArray.empty (rd_L1 l0 x3_1) x4_2) x5_3
                     replace p14 := eq_true p14
                     replace q14 := eq_true q14
                     have p112 : 0 ≤ (x3_1 : Int) := od_
                     have q112 : x3_1 < (l0.length : Int) := od_
                     obtain ⟨ad112, A112_0, c112_0, e112, hx112_0, hl112_0, hi112_0⟩ := at_L1 HR0.out x3_1 p112 q112
                     obtain rfl : ad105 = ad112 := (by injection e112)
                     have HR112_0 := Aside0.mk hi112_0
                     have HC112_0 := Aside0.mk hl112_0
                     clear hi112_0 hl112_0
                     replace p112 := eq_true p112
                     replace q112 := eq_true q112
                     have ea_ := Option.some.inj (hx108_0.symm.trans hx112_0)
                     injection ea_ with ea_ en_ ec_
                     subst ea_
                     subst ec_
                     clear en_
                     have p113 : 0 ≤ (x4_2 : Int) := od_
                     have q113 : x4_2 < ((rd_L1 l0 x3_1).length : Int) := od_
                     obtain ⟨ad113, e113, hx113_0⟩ := Kd.at_string HR112_0.out x4_2 p113 q113
                     cases e113
                     replace p113 := eq_true p113
                     replace q113 := eq_true q113
                     have p16 : 0 ≤ (x5_3 : Int) := od_
                     have q16 : x5_3 < ((rdOf ByteArray.empty (rd_L1 l0 x3_1) x4_2).size : Int) := od_
                     have hx16 := bt_at (rdOf ByteArray.empty (rd_L1 l0 x3_1) x4_2) x5_3
                     replace p16 := eq_true p16
                     replace q16 := eq_true q16
                     go_wp2
                     go_roundg k3
                     case measure => have := HK1.out; have := HK2.out; have := HK3.out; omega
                     case rel => exact ⟨(wrap64 (x5_3 + 1)), (aq), H', ⟨by have := HK1.out; have := HK2.out; have := HK3.out; omega⟩, dr⟩
                  ·rw [if_neg c13] at H
                   exact absurd H (by simp)
                 ·rw [if_neg c12] at H
                  have c12b0 : decide (x5_3 < ((rdOf ByteArray.empty (rd_L1 l0 x3_1) x4_2).size : Int)) = false := decide_eq_false c12
                  clear c12
                  have H' := Aside0.mk H
                  clear H
                  have p108 : 0 ≤ (x3_1 : Int) := od_
                  have q108 : x3_1 < (l0.length : Int) := od_
                  obtain ⟨ad108, A108_0, c108_0, e108, hx108_0, hl108_0, hi108_0⟩ := at_L1 HR0.out x3_1 p108 q108
                  obtain rfl : ad105 = ad108 := (by injection e108)
                  have HR108_0 := Aside0.mk hi108_0
                  have HC108_0 := Aside0.mk hl108_0
                  clear hi108_0 hl108_0
                  replace p108 := eq_true p108
                  replace q108 := eq_true q108
                  have p109 : 0 ≤ (x4_2 : Int) := od_
                  have q109 : x4_2 < ((rd_L1 l0 x3_1).length : Int) := od_
                  obtain ⟨ad109, e109, hx109_0⟩ := Kd.at_string HR108_0.out x4_2 p109 q109
                  cases e109
                  replace p109 := eq_true p109
                  replace q109 := eq_true q109
                  go_wp2
                  go_roundg k3
                  case measure => have := HK1.out; have := HK2.out; have := HK3.out; omega
                  case rel => exact ⟨(wrap64 (x4_2 + 1)), (aq), H', ⟨by have := HK1.out; have := HK2.out; have := HK3.out; omega⟩, dr⟩
                ·rw [if_neg c11] at H
                 exact absurd H (by simp)
               ·rw [if_neg c10] at H
                exact absurd H (by simp)
              ·rw [if_neg c9] at H
               exact absurd H (by simp)
             ·rw [if_neg c8] at H
              exact absurd H (by simp)
         ·rw [if_neg c6] at H
          exact absurd H (by simp)
        ·rw [if_neg c5] at H
         have c5b0 : decide (x4_2 < ((rd_L1 l0 x3_1).length : Int)) = false := decide_eq_false c5
         clear c5
         have H' := Aside0.mk H
         clear H
         have p105 : 0 ≤ (x3_1 : Int) := od_
         have q105 : x3_1 < (l0.length : Int) := od_
         obtain ⟨ad105, A105_0, c105_0, e105, hx105_0, hl105_0, hi105_0⟩ := at_L1 HR0.out x3_1 p105 q105
         cases e105
         have HR105_0 := Aside0.mk hi105_0
         have HC105_0 := Aside0.mk hl105_0
         clear hi105_0 hl105_0
         replace p105 := eq_true p105
         replace q105 := eq_true q105
         go_wp2
         go_roundg k2
         case measure => have := HK1.out; have := HK2.out; omega
         case rel => exact ⟨(wrap64 (x3_1 + 1)), (aq), H', ⟨by have := HK1.out; have := HK2.out; omega⟩, dr⟩
       ·rw [if_neg c4] at H
        exact absurd H (by simp)
      ·rw [if_neg c3] at H
       exact absurd H (by simp)
   ·rw [if_neg c2] at H
    have c2b0 : decide (x3_1 < (l0.length : Int)) = false := decide_eq_false c2
    clear c2
    obtain rfl := Option.some.inj H
    go_wp2
    go_ret
    exact ⟨aq, dr⟩

end Go.Proofs.YtkbffpadkdgbmaaGreatDoor.X
