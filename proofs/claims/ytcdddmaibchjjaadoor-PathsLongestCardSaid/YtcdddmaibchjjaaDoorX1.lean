/- Walks: each '.calls' says that the Go function comes to what its Lean function tells. Conditions: as each theorem's head says. -/
import Derived.Test.YtcdddmaibchjjaaDoorXD
import Derived.Test.YtcdddmaibchjjaaDoorX0
namespace Go.Proofs.YtcdddmaibchjjaaDoor.X
open Go.RowKit Go.Proofs.YtcdddmaibchjjaaDoorW.PrintWords Go.Proofs.YtcdddmaibchjjaaDoorW.PrintLast Go.Proofs.YtcdddmaibchjjaaDoorW.PrintMore
attribute [local go_sem] max2_int min2_int max_two min_two max_three min_three max_four min_four   -- for this text's walks alone
set_option linter.unusedVariables false
set_option maxHeartbeats 8000000
set_option maxRecDepth 100000
set_option linter.unusedSimpArgs false

/-! ### carrefourlaw14_few: function 7 -/
theorem carrefourlaw14_few.calls (a0 : Int) (A1 : Option Addr) (c1 : Nat) (l1 : List (S34)) (r : Bool) (w : World) (hr1 : Kd.C k34 w A1 l1.length l1) (hc1 : l1.length ≤ c1) (h : carrefourlaw14_few.f a0 l1 = some r) :
  Calls Tryd.prog 7 #[.int .i64 a0, .slice A1 l1.length c1] w fun e w' => e = .returned (.bool r) ∧ Drawn0 w w' := by
 have HR1 := Aside0.mk hr1
 have HC1 := Aside0.mk hc1
 clear hr1 hc1
 have H : (if a0 ≤ 12 then (some (decide ((l1.length : Int) ≤ 60))) else (if a0 > 64 then (some (decide ((l1.length : Int) ≤ 60))) else (some false))) = some r := h
 clear h
 by_cases c3 : a0 ≤ 12
 ·rw [if_pos c3] at H
  have c3b0 : decide (a0 ≤ 12) = true := decide_eq_true c3
  clear c3
  obtain rfl := Option.some.inj H
  go_enter Tryd.func7, Tryd.ntmps7
  go_wp2
  go_ret
  exact ⟨aq, dr⟩
 ·rw [if_neg c3] at H
  have c3b0 : decide (a0 ≤ 12) = false := decide_eq_false c3
  clear c3
  by_cases c4 : a0 > 64
  ·rw [if_pos c4] at H
   have c4b0 : decide (64 < a0) = true := decide_eq_true c4
   clear c4
   obtain rfl := Option.some.inj H
   go_enter Tryd.func7, Tryd.ntmps7
   go_wp2
   go_ret
   exact ⟨aq, dr⟩
  ·rw [if_neg c4] at H
   have c4b0 : decide (64 < a0) = false := decide_eq_false c4
   clear c4
   obtain rfl := Option.some.inj H
   go_enter Tryd.func7, Tryd.ntmps7
   go_wp2
   go_ret
   exact ⟨aq, dr⟩


/-! ### paths_Longest: function 8 -/
/-! ### carrefourref14_Right: function 16 -/
theorem carrefourref14_Right.calls (k : Nat) (a0 : Int) (A1 : Option Addr) (c1 : Nat) (l1 : List (S34)) (r : Bool) (w : World) (hr1 : Kd.C k34 w A1 l1.length l1) (hc1 : l1.length ≤ c1) (h : carrefourref14_Right.f k a0 l1 = some r) :
  Calls Tryd.prog 16 #[.int .i64 a0, .slice A1 l1.length c1] w fun e w' => e = .returned (.bool r) ∧ Drawn0 w w' := by
 have HR1 := Aside0.mk hr1
 have HC1 := Aside0.mk hc1
 clear hr1 hc1
 have H : (if a0 < 1 then (carrefourref14_Right.j0 k a0 l1 true) else (if a0 > 64 then (carrefourref14_Right.j0 k a0 l1 true) else (carrefourref14_Right.j0 k a0 l1 (decide ((l1.length : Int) > 1000))))) = some r := h
 clear h
 have HC3 := Aside0.mk H
 clear H
 go_enter Tryd.func16, Tryd.ntmps16
 go_upto_region 1 with (fail)
 go_cut [16] (fun v16 wc => ∃ (kq : Nat) (x16_2 : Bool), v16 = .bool x16_2 ∧ Aside0 (carrefourref14_Right.j0 kq a0 l1 x16_2 = some r) ∧ Aside0 (kq ≤ k) ∧ Drawn0 w wc)
 case first =>
  have H := HC3.out
  clear HC3
  by_cases c4 : a0 < 1
  ·rw [if_pos c4] at H
   have c4b0 : decide (a0 < 1) = true := decide_eq_true c4
   clear c4
   (first | rw [c4b0] | (simp only [i64_w, i32_w]; rw [c4b0]) | skip)
   have H' := Aside0.mk H
   clear H
   go_wp2
   go_meet
   case rel => exact ⟨_, (true), (aq), H', ⟨by first | omega | exact Nat.le_refl _⟩, dr⟩
  ·rw [if_neg c4] at H
   have c4b0 : decide (a0 < 1) = false := decide_eq_false c4
   clear c4
   (first | rw [c4b0] | (simp only [i64_w, i32_w]; rw [c4b0]) | skip)
   by_cases c5 : a0 > 64
   ·rw [if_pos c5] at H
    have c5b0 : decide (64 < a0) = true := decide_eq_true c5
    clear c5
    have H' := Aside0.mk H
    clear H
    go_wp2
    go_meet
    case rel => exact ⟨_, (true), (aq), H', ⟨by first | omega | exact Nat.le_refl _⟩, dr⟩
   ·rw [if_neg c5] at H
    have c5b0 : decide (64 < a0) = false := decide_eq_false c5
    clear c5
    have H' := Aside0.mk H
    clear H
    go_wp2
    go_meet
    case rel => exact ⟨_, (decide ((l1.length : Int) > 1000)), (aq), H', ⟨by first | omega | exact Nat.le_refl _⟩, dr⟩
 case rest =>
  clear HC3
  (try clear c1); (try clear p2); (try clear c4); (try clear c4b0); (try clear c5); (try clear c5b0)
  obtain ⟨kq, x16_2, rfl, HA, HJ2, ⟨mc2, rfl⟩⟩ := hcut
  cases kq with
  | zero => exact absurd HA.out (by simp [carrefourref14_Right.j0])
  | succ kj2 =>
   have H := HA.out
   clear HA
   simp only [carrefourref14_Right.j0] at H
   by_cases c6 : x16_2 = true
   ·subst c6
    have H1 : (some false) = some r := by rw [if_pos rfl] at H; exact H
    clear H
    have H := H1
    clear H1
    obtain rfl := Option.some.inj H
    go_wp2
    go_ret
    exact ⟨aq, dr⟩
   ·replace c6 := Bool.eq_false_iff.mpr c6
    subst c6
    have H1 : (carrefourref14_Right.l0 kj2 a0 l1 0) = some r := by rw [if_neg (show ¬ (false = true) by decide)] at H; exact H
    clear H
    have H := H1
    clear H1
    have H' := Aside0.mk H
    clear H
    go_wp2
    go_loopg [5] kj2 (fun kq v5 w' => ∃ (x5_2 : Int), v5 = .int .i64 x5_2 ∧ Aside0 (carrefourref14_Right.l0 kq a0 l1 x5_2 = some r) ∧ Aside0 (kq ≤ kj2) ∧ Drawn0 w w')
    case atStart => exact ⟨(0), (aq), H', ⟨Nat.le_refl _⟩, dr⟩
    case round =>
     clear H'
     (try clear c1); (try clear c2); (try clear p2); (try clear c4); (try clear c4b0); (try clear c5); (try clear c5b0); (try clear c6); (try clear p2)
     obtain ⟨x5_2, rfl, HA, HK2, ⟨m2, rfl⟩⟩ := hrel
     cases gk with
     | zero => exact absurd HA.out (by simp [carrefourref14_Right.l0])
     | succ k2 =>
      have H := HA.out
      clear HA
      simp only [carrefourref14_Right.l0] at H
      by_cases c7 : x5_2 < (l1.length : Int)
      ·rw [if_pos c7] at H
       have c7b0 : decide (x5_2 < (l1.length : Int)) = true := decide_eq_true c7
       clear c7
       by_cases c8 : 0 ≤ x5_2
       ·rw [if_pos c8] at H
        have c8b0 : decide (0 ≤ x5_2) = true := decide_eq_true c8
        clear c8
        by_cases c9 : ((rd_T34 l1 x5_2).f0) < 0
        ·rw [if_pos c9] at H
         have c9b0 : decide (((rd_T34 l1 x5_2).f0) < 0) = true := decide_eq_true c9
         clear c9
         obtain rfl := Option.some.inj H
         have p101 : 0 ≤ (x5_2 : Int) := od_
         have q101 : x5_2 < (l1.length : Int) := od_
         obtain ⟨ad101, e101, hx101_0, hx101_1, hx101_2⟩ := at_T34 HR1.out x5_2 p101 q101
         cases e101
         replace p101 := eq_true p101
         replace q101 := eq_true q101
         go_wp2
         go_ret
         exact ⟨aq, dr⟩
        ·rw [if_neg c9] at H
         have c9b0 : decide (((rd_T34 l1 x5_2).f0) < 0) = false := decide_eq_false c9
         clear c9
         by_cases c10 : ((rd_T34 l1 x5_2).f0) ≥ a0
         ·rw [if_pos c10] at H
          have c10b0 : decide (a0 ≤ ((rd_T34 l1 x5_2).f0)) = true := decide_eq_true c10
          clear c10
          obtain rfl := Option.some.inj H
          have p101 : 0 ≤ (x5_2 : Int) := od_
          have q101 : x5_2 < (l1.length : Int) := od_
          obtain ⟨ad101, e101, hx101_0, hx101_1, hx101_2⟩ := at_T34 HR1.out x5_2 p101 q101
          cases e101
          replace p101 := eq_true p101
          replace q101 := eq_true q101
          have p102 : 0 ≤ (x5_2 : Int) := od_
          have q102 : x5_2 < (l1.length : Int) := od_
          obtain ⟨ad102, e102, hx102_0, hx102_1, hx102_2⟩ := at_T34 HR1.out x5_2 p102 q102
          obtain rfl : ad101 = ad102 := (by injection e102)
          replace p102 := eq_true p102
          replace q102 := eq_true q102
          go_wp2
          go_ret
          exact ⟨aq, dr⟩
         ·rw [if_neg c10] at H
          have c10b0 : decide (a0 ≤ ((rd_T34 l1 x5_2).f0)) = false := decide_eq_false c10
          clear c10
          by_cases c11 : ((rd_T34 l1 x5_2).f1) < 0
          ·rw [if_pos c11] at H
           have c11b0 : decide (((rd_T34 l1 x5_2).f1) < 0) = true := decide_eq_true c11
           clear c11
           obtain rfl := Option.some.inj H
           have p101 : 0 ≤ (x5_2 : Int) := od_
           have q101 : x5_2 < (l1.length : Int) := od_
           obtain ⟨ad101, e101, hx101_0, hx101_1, hx101_2⟩ := at_T34 HR1.out x5_2 p101 q101
           cases e101
           replace p101 := eq_true p101
           replace q101 := eq_true q101
           have p102 : 0 ≤ (x5_2 : Int) := od_
           have q102 : x5_2 < (l1.length : Int) := od_
           obtain ⟨ad102, e102, hx102_0, hx102_1, hx102_2⟩ := at_T34 HR1.out x5_2 p102 q102
           obtain rfl : ad101 = ad102 := (by injection e102)
           replace p102 := eq_true p102
           replace q102 := eq_true q102
           have p103 : 0 ≤ (x5_2 : Int) := od_
           have q103 : x5_2 < (l1.length : Int) := od_
           obtain ⟨ad103, e103, hx103_0, hx103_1, hx103_2⟩ := at_T34 HR1.out x5_2 p103 q103
           obtain rfl : ad101 = ad103 := (by injection e103)
           replace p103 := eq_true p103
           replace q103 := eq_true q103
           go_wp2
           go_ret
           exact ⟨aq, dr⟩
          ·rw [if_neg c11] at H
           have c11b0 : decide (((rd_T34 l1 x5_2).f1) < 0) = false := decide_eq_false c11
           clear c11
           by_cases c12 : ((rd_T34 l1 x5_2).f1) ≥ a0
           ·rw [if_pos c12] at H
            have c12b0 : decide (a0 ≤ ((rd_T34 l1 x5_2).f1)) = true := decide_eq_true c12
            clear c12
            obtain rfl := Option.some.inj H
            have p101 : 0 ≤ (x5_2 : Int) := od_
            have q101 : x5_2 < (l1.length : Int) := od_
            obtain ⟨ad101, e101, hx101_0, hx101_1, hx101_2⟩ := at_T34 HR1.out x5_2 p101 q101
            cases e101
            replace p101 := eq_true p101
            replace q101 := eq_true q101
            have p102 : 0 ≤ (x5_2 : Int) := od_
            have q102 : x5_2 < (l1.length : Int) := od_
            obtain ⟨ad102, e102, hx102_0, hx102_1, hx102_2⟩ := at_T34 HR1.out x5_2 p102 q102
            obtain rfl : ad101 = ad102 := (by injection e102)
            replace p102 := eq_true p102
            replace q102 := eq_true q102
            have p103 : 0 ≤ (x5_2 : Int) := od_
            have q103 : x5_2 < (l1.length : Int) := od_
            obtain ⟨ad103, e103, hx103_0, hx103_1, hx103_2⟩ := at_T34 HR1.out x5_2 p103 q103
            obtain rfl : ad101 = ad103 := (by injection e103)
            replace p103 := eq_true p103
            replace q103 := eq_true q103
            have p104 : 0 ≤ (x5_2 : Int) := od_
            have q104 : x5_2 < (l1.length : Int) := od_
            obtain ⟨ad104, e104, hx104_0, hx104_1, hx104_2⟩ := at_T34 HR1.out x5_2 p104 q104
            obtain rfl : ad101 = ad104 := (by injection e104)
            replace p104 := eq_true p104
            replace q104 := eq_true q104
            go_wp2
            go_ret
            exact ⟨aq, dr⟩
           ·rw [if_neg c12] at H
            have c12b0 : decide (a0 ≤ ((rd_T34 l1 x5_2).f1)) = false := decide_eq_false c12
            clear c12
            by_cases c13 : ((rd_T34 l1 x5_2).f2) < 0
            ·rw [if_pos c13] at H
             have c13b0 : decide (((rd_T34 l1 x5_2).f2) < 0) = true := decide_eq_true c13
             clear c13
             obtain rfl := Option.some.inj H
             have p101 : 0 ≤ (x5_2 : Int) := od_
             have q101 : x5_2 < (l1.length : Int) := od_
             obtain ⟨ad101, e101, hx101_0, hx101_1, hx101_2⟩ := at_T34 HR1.out x5_2 p101 q101
             cases e101
             replace p101 := eq_true p101
             replace q101 := eq_true q101
             have p102 : 0 ≤ (x5_2 : Int) := od_
             have q102 : x5_2 < (l1.length : Int) := od_
             obtain ⟨ad102, e102, hx102_0, hx102_1, hx102_2⟩ := at_T34 HR1.out x5_2 p102 q102
             obtain rfl : ad101 = ad102 := (by injection e102)
             replace p102 := eq_true p102
             replace q102 := eq_true q102
             have p103 : 0 ≤ (x5_2 : Int) := od_
             have q103 : x5_2 < (l1.length : Int) := od_
             obtain ⟨ad103, e103, hx103_0, hx103_1, hx103_2⟩ := at_T34 HR1.out x5_2 p103 q103
             obtain rfl : ad101 = ad103 := (by injection e103)
             replace p103 := eq_true p103
             replace q103 := eq_true q103
             have p104 : 0 ≤ (x5_2 : Int) := od_
             have q104 : x5_2 < (l1.length : Int) := od_
             obtain ⟨ad104, e104, hx104_0, hx104_1, hx104_2⟩ := at_T34 HR1.out x5_2 p104 q104
             obtain rfl : ad101 = ad104 := (by injection e104)
             replace p104 := eq_true p104
             replace q104 := eq_true q104
             have p105 : 0 ≤ (x5_2 : Int) := od_
             have q105 : x5_2 < (l1.length : Int) := od_
             obtain ⟨ad105, e105, hx105_0, hx105_1, hx105_2⟩ := at_T34 HR1.out x5_2 p105 q105
             obtain rfl : ad101 = ad105 := (by injection e105)
             replace p105 := eq_true p105
             replace q105 := eq_true q105
             go_wp2
             go_ret
             exact ⟨aq, dr⟩
            ·rw [if_neg c13] at H
             have c13b0 : decide (((rd_T34 l1 x5_2).f2) < 0) = false := decide_eq_false c13
             clear c13
             by_cases c14 : ((rd_T34 l1 x5_2).f2) > 6000
             ·rw [if_pos c14] at H
              have c14b0 : decide (6000 < ((rd_T34 l1 x5_2).f2)) = true := decide_eq_true c14
              clear c14
              obtain rfl := Option.some.inj H
              have p101 : 0 ≤ (x5_2 : Int) := od_
              have q101 : x5_2 < (l1.length : Int) := od_
              obtain ⟨ad101, e101, hx101_0, hx101_1, hx101_2⟩ := at_T34 HR1.out x5_2 p101 q101
              cases e101
              replace p101 := eq_true p101
              replace q101 := eq_true q101
              have p102 : 0 ≤ (x5_2 : Int) := od_
              have q102 : x5_2 < (l1.length : Int) := od_
              obtain ⟨ad102, e102, hx102_0, hx102_1, hx102_2⟩ := at_T34 HR1.out x5_2 p102 q102
              obtain rfl : ad101 = ad102 := (by injection e102)
              replace p102 := eq_true p102
              replace q102 := eq_true q102
              have p103 : 0 ≤ (x5_2 : Int) := od_
              have q103 : x5_2 < (l1.length : Int) := od_
              obtain ⟨ad103, e103, hx103_0, hx103_1, hx103_2⟩ := at_T34 HR1.out x5_2 p103 q103
              obtain rfl : ad101 = ad103 := (by injection e103)
              replace p103 := eq_true p103
              replace q103 := eq_true q103
              have p104 : 0 ≤ (x5_2 : Int) := od_
              have q104 : x5_2 < (l1.length : Int) := od_
              obtain ⟨ad104, e104, hx104_0, hx104_1, hx104_2⟩ := at_T34 HR1.out x5_2 p104 q104
              obtain rfl : ad101 = ad104 := (by injection e104)
              replace p104 := eq_true p104
              replace q104 := eq_true q104
              have p105 : 0 ≤ (x5_2 : Int) := od_
              have q105 : x5_2 < (l1.length : Int) := od_
              obtain ⟨ad105, e105, hx105_0, hx105_1, hx105_2⟩ := at_T34 HR1.out x5_2 p105 q105
              obtain rfl : ad101 = ad105 := (by injection e105)
              replace p105 := eq_true p105
              replace q105 := eq_true q105
              have p106 : 0 ≤ (x5_2 : Int) := od_
              have q106 : x5_2 < (l1.length : Int) := od_
              obtain ⟨ad106, e106, hx106_0, hx106_1, hx106_2⟩ := at_T34 HR1.out x5_2 p106 q106
              obtain rfl : ad101 = ad106 := (by injection e106)
              replace p106 := eq_true p106
              replace q106 := eq_true q106
              go_wp2
              go_ret
              exact ⟨aq, dr⟩
             ·rw [if_neg c14] at H
              have c14b0 : decide (6000 < ((rd_T34 l1 x5_2).f2)) = false := decide_eq_false c14
              clear c14
              have H' := Aside0.mk H
              clear H
              have p101 : 0 ≤ (x5_2 : Int) := od_
              have q101 : x5_2 < (l1.length : Int) := od_
              obtain ⟨ad101, e101, hx101_0, hx101_1, hx101_2⟩ := at_T34 HR1.out x5_2 p101 q101
              cases e101
              replace p101 := eq_true p101
              replace q101 := eq_true q101
              have p102 : 0 ≤ (x5_2 : Int) := od_
              have q102 : x5_2 < (l1.length : Int) := od_
              obtain ⟨ad102, e102, hx102_0, hx102_1, hx102_2⟩ := at_T34 HR1.out x5_2 p102 q102
              obtain rfl : ad101 = ad102 := (by injection e102)
              replace p102 := eq_true p102
              replace q102 := eq_true q102
              have p103 : 0 ≤ (x5_2 : Int) := od_
              have q103 : x5_2 < (l1.length : Int) := od_
              obtain ⟨ad103, e103, hx103_0, hx103_1, hx103_2⟩ := at_T34 HR1.out x5_2 p103 q103
              obtain rfl : ad101 = ad103 := (by injection e103)
              replace p103 := eq_true p103
              replace q103 := eq_true q103
              have p104 : 0 ≤ (x5_2 : Int) := od_
              have q104 : x5_2 < (l1.length : Int) := od_
              obtain ⟨ad104, e104, hx104_0, hx104_1, hx104_2⟩ := at_T34 HR1.out x5_2 p104 q104
              obtain rfl : ad101 = ad104 := (by injection e104)
              replace p104 := eq_true p104
              replace q104 := eq_true q104
              have p105 : 0 ≤ (x5_2 : Int) := od_
              have q105 : x5_2 < (l1.length : Int) := od_
              obtain ⟨ad105, e105, hx105_0, hx105_1, hx105_2⟩ := at_T34 HR1.out x5_2 p105 q105
              obtain rfl : ad101 = ad105 := (by injection e105)
              replace p105 := eq_true p105
              replace q105 := eq_true q105
              have p106 : 0 ≤ (x5_2 : Int) := od_
              have q106 : x5_2 < (l1.length : Int) := od_
              obtain ⟨ad106, e106, hx106_0, hx106_1, hx106_2⟩ := at_T34 HR1.out x5_2 p106 q106
              obtain rfl : ad101 = ad106 := (by injection e106)
              replace p106 := eq_true p106
              replace q106 := eq_true q106
              go_wp2
              go_roundg k2
              case measure => have := HJ2.out; have := HK2.out; omega
              case rel => exact ⟨(wrap64 (x5_2 + 1)), (aq), H', ⟨by have := HJ2.out; have := HK2.out; omega⟩, dr⟩
       ·rw [if_neg c8] at H
        exact absurd H (by simp)
      ·rw [if_neg c7] at H
       have c7b0 : decide (x5_2 < (l1.length : Int)) = false := decide_eq_false c7
       clear c7
       obtain rfl := Option.some.inj H
       go_wp2
       go_ret
       exact ⟨aq, dr⟩

end Go.Proofs.YtcdddmaibchjjaaDoor.X
