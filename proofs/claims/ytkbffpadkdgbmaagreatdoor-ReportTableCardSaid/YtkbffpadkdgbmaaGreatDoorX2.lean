/- Walks: each '.calls' says that the Go function comes to what its Lean function tells. Conditions: as each theorem's head says. -/
import Derived.Test.YtkbffpadkdgbmaaGreatDoorXD
import Derived.Test.YtkbffpadkdgbmaaGreatDoorX0
import Derived.Test.YtkbffpadkdgbmaaGreatDoorX1
namespace Go.Proofs.YtkbffpadkdgbmaaGreatDoor.X
open Go.RowKit Go.Proofs.YtkbffpadkdgbmaaGreatDoorW.PrintWords Go.Proofs.YtkbffpadkdgbmaaGreatDoorW.PrintLast Go.Proofs.YtkbffpadkdgbmaaGreatDoorW.PrintMore
attribute [local go_sem] max2_int min2_int max_two min_two max_three min_three max_four min_four   -- for this text's walks alone
set_option linter.unusedVariables false
set_option maxHeartbeats 8000000
set_option maxRecDepth 100000
set_option linter.unusedSimpArgs false

/-! ### carrefourref29_Table: function 7 -/
def carrefourref29_Table.T10 : Bool × List (List Nat × List Nat) := (true, [([], []), ([], []), ([0, 1], [0, 1]), ([2], [2]), ([], []), ([], []), ([4, 5], [4, 5]), ([6], [6]), ([], []), ([7, 8], [7, 8]), ([9], [9]), ([10], [10]), ([3, 11], [3, 11]), ([12, 2, 0, 1, 2, 3, 4, 5, 6, 7, 8, 9, 10, 11, 12], [12])])
def carrefourref29_Table.B10 : List Nat := [0, 0, 3, 7, 0, 0, 48, 112, 0, 496, 1008, 2032, 4095, 8191]
theorem carrefourref29_Table.tab10 : rtab .any (opsOf Tryz.f7 10) = carrefourref29_Table.T10 := by kernel_rfl
theorem carrefourref29_Table.bits10 : waitsOk carrefourref29_Table.T10.2 carrefourref29_Table.B10 = true := by kernel_rfl
theorem carrefourref29_Table.calls (k : Nat) (A0 : Option Addr) (c0 : Nat) (l0 : List (List ByteArray)) (r : ByteArray) (w : World) (hr0 : Kd.C (Kd.slice 9 Kd.string) w A0 l0.length l0) (hc0 : l0.length ≤ c0) (h : carrefourref29_Table.f k l0 = some r) :
  Calls Tryz.prog 7 #[.slice A0 l0.length c0] w fun e w' => e = .returned (.string r) ∧ Below w.heap.size w w' := by
 have HR0 := Aside0.mk hr0
 have HC0 := Aside0.mk hc0
 clear hr0 hc0
 have HB := Aside0.mk (Below.refl w.heap.size w)
 have H : (carrefourref29_Table.l0 k l0 (⟨#[]⟩ : ByteArray) 0) = some r := h
 clear h
 have H' := Aside0.mk H
 clear H
 go_enter Tryz.func7, Tryz.ntmps7
 go_wp2
 go_loopg [3, 4] k (fun kq v3 v4 w' => ∃ (x3_1 : ByteArray) (x4_1 : Int), v3 = .string x3_1 ∧ v4 = .int .i64 x4_1 ∧ Aside0 (carrefourref29_Table.l0 kq l0 x3_1 x4_1 = some r) ∧ Aside0 (kq ≤ k) ∧ Aside0 (Below w.heap.size w w'))
 case atStart => exact ⟨((⟨#[]⟩ : ByteArray)), (0), (aq), (aq), H', ⟨Nat.le_refl _⟩, ⟨bf HB⟩⟩
 case round =>
  clear H'
  obtain ⟨x3_1, x4_1, rfl, rfl, HA, HK1, HB⟩ := hrel
  cases gk with
  | zero => exact absurd HA.out (by simp [carrefourref29_Table.l0])
  | succ k1 =>
   have H := HA.out
   clear HA
   simp only [carrefourref29_Table.l0] at H
   by_cases c2 : x4_1 < (l0.length : Int)
   ·rw [if_pos c2] at H
    have c2b0 : decide (x4_1 < (l0.length : Int)) = true := decide_eq_true c2
    clear c2
    have H' := Aside0.mk H
    clear H
    go_wp2
    go_loopg [3, 5] k1 (fun kq v3 v5 w' => ∃ (x3_2 : ByteArray) (x5_2 : Int), v3 = .string x3_2 ∧ v5 = .int .i64 x5_2 ∧ Aside0 (carrefourref29_Table.l1 kq l0 x3_2 x4_1 x5_2 = some r) ∧ Aside0 (kq ≤ k1) ∧ Aside0 (Below w.heap.size w w'))
    case atStart => exact ⟨(x3_1), (0), (aq), (aq), H', ⟨Nat.le_refl _⟩, ⟨bf HB⟩⟩
    case round =>
     clear H'
     (try clear c2); (try clear c2b0); (try clear p2)
     obtain ⟨x3_2, x5_2, rfl, rfl, HA, HK2, HB⟩ := hrel
     cases gk with
     | zero => exact absurd HA.out (by simp [carrefourref29_Table.l1])
     | succ k2 =>
      have H := HA.out
      clear HA
      simp only [carrefourref29_Table.l1] at H
      by_cases c3 : 0 ≤ x4_1
      ·rw [if_pos c3] at H
       have c3b0 : decide (0 ≤ x4_1) = true := decide_eq_true c3
       clear c3
       by_cases c4 : x4_1 < (l0.length : Int)
       ·rw [if_pos c4] at H
        have c4b0 : decide (x4_1 < (l0.length : Int)) = true := decide_eq_true c4
        clear c4
        by_cases c5 : x5_2 < ((rd_L1 l0 x4_1).length : Int)
        ·rw [if_pos c5] at H
         have c5b0 : decide (x5_2 < ((rd_L1 l0 x4_1).length : Int)) = true := decide_eq_true c5
         clear c5
         by_cases c6 : 0 ≤ x5_2
         ·rw [if_pos c6] at H
          have c6b0 : decide (0 ≤ x5_2) = true := decide_eq_true c6
          clear c6
          by_cases c7 : x3_2.size + (rdOf ByteArray.empty (rd_L1 l0 x4_1) x5_2).size ≤ 9223372036854775807
          ·rw [if_pos c7] at H
           have c7b0 := eq_true c7
           have c7b1 : decide (x3_2.size + (rdOf ByteArray.empty (rd_L1 l0 x4_1) x5_2).size ≤ 9223372036854775807) = true := decide_eq_true c7
           try have c7b2 : (9223372036854775807 < x3_2.size + (rdOf ByteArray.empty (rd_L1 l0 x4_1) x5_2).size) = False := eq_false (Nat.not_lt.2 c7)
           by_cases c8 : x5_2 < (wrap64 (((rd_L1 l0 x4_1).length : Int) - 1))
           ·rw [if_pos c8] at H
            have c8b0 : decide (x5_2 < (wrap64 (((rd_L1 l0 x4_1).length : Int) - 1))) = true := decide_eq_true c8
            clear c8
            replace H := bi_ H; obtain ⟨t112, A9, H⟩ := H
            (try dsimp only at H)
            have H' := Aside0.mk H
            clear H
            have p108 : 0 ≤ (x4_1 : Int) := od_
            have q108 : x4_1 < (l0.length : Int) := od_
            obtain ⟨ad108, A108_0, c108_0, e108, hx108_0, hl108_0, hi108_0⟩ := at_L1 HR0.out x4_1 p108 q108
            cases e108
            replace hx108_0 := hx_ HB hx108_0
            have HR108_0 := Aside0.mk hi108_0
            have HC108_0 := Aside0.mk hl108_0
            clear hi108_0 hl108_0
            replace p108 := eq_true p108
            replace q108 := eq_true q108
            have p109 : 0 ≤ (x4_1 : Int) := od_
            have q109 : x4_1 < (l0.length : Int) := od_
            obtain ⟨ad109, A109_0, c109_0, e109, hx109_0, hl109_0, hi109_0⟩ := at_L1 HR0.out x4_1 p109 q109
            obtain rfl : ad108 = ad109 := (by injection e109)
            replace hx109_0 := hx_ HB hx109_0
            have HR109_0 := Aside0.mk hi109_0
            have HC109_0 := Aside0.mk hl109_0
            clear hi109_0 hl109_0
            replace p109 := eq_true p109
            replace q109 := eq_true q109
            have ea_ := Option.some.inj (hx108_0.symm.trans hx109_0)
            injection ea_ with ea_ en_ ec_
            subst ea_
            subst ec_
            clear en_
            have p110 : 0 ≤ (x5_2 : Int) := od_
            have q110 : x5_2 < ((rd_L1 l0 x4_1).length : Int) := od_
            obtain ⟨ad110, e110, hx110_0⟩ := Kd.at_string HR109_0.out x5_2 p110 q110
            cases e110
            replace hx110_0 := hx_ HB hx110_0
            replace p110 := eq_true p110
            replace q110 := eq_true q110
            have p111 : 0 ≤ (x4_1 : Int) := od_
            have q111 : x4_1 < (l0.length : Int) := od_
            obtain ⟨ad111, A111_0, c111_0, e111, hx111_0, hl111_0, hi111_0⟩ := at_L1 HR0.out x4_1 p111 q111
            obtain rfl : ad108 = ad111 := (by injection e111)
            replace hx111_0 := hx_ HB hx111_0
            have HR111_0 := Aside0.mk hi111_0
            have HC111_0 := Aside0.mk hl111_0
            clear hi111_0 hl111_0
            replace p111 := eq_true p111
            replace q111 := eq_true q111
            have ea_ := Option.some.inj (hx108_0.symm.trans hx111_0)
            injection ea_ with ea_ en_ ec_
            subst ea_
            subst ec_
            clear en_
            try go_wp2
            replace HB := Aside0.mk (below_drew1 HB.out)
            have p113 : 0 ≤ (x4_1 : Int) := od_
            have q113 : x4_1 < (l0.length : Int) := od_
            obtain ⟨ad113, A113_0, c113_0, e113, hx113_0, hl113_0, hi113_0⟩ := at_L1 HR0.out x4_1 p113 q113
            have hw113_0 := hx113_0
            obtain rfl : ad108 = ad113 := (by injection e113)
            replace hx113_0 := hx_ HB hx113_0
            have HR113_0 := Aside0.mk hi113_0
            have HC113_0 := Aside0.mk hl113_0
            clear hi113_0 hl113_0
            replace p113 := eq_true p113
            replace q113 := eq_true q113
            have p114 : 0 ≤ (x5_2 : Int) := od_
            have q114 : x5_2 < ((rd_L1 l0 x4_1).length : Int) := od_
            obtain ⟨ad114, e114, hx114_0⟩ := Kd.at_string HR113_0.out x5_2 p114 q114
            have hw114_0 := hx114_0
            cases e114
            replace hx114_0 := hx_ HB hx114_0
            replace p114 := eq_true p114
            replace q114 := eq_true q114
            refine start_ (n := 14) (S := fun w' => w'.cell? (ad108.add (x4_1).toNat) = some (.slice (some ad114) (rd_L1 l0 x4_1).length c113_0) ∧ w'.cell? (ad114.add (x5_2).toNat) = some (.string (rdOf ByteArray.empty (rd_L1 l0 x4_1) x5_2))) (ds := []) (m_ 14 0) (by kernel_rfl) rfl rfl ⟨(hx_ HB hw113_0 :), (hx_ HB hw114_0 :)⟩ (fun hHeld => ?_); refine with_tabW carrefourref29_Table.tab10 carrefourref29_Table.bits10 (fun HT_ HW_ => ?_)
            generalize wr.drew = w10 at HB HR113_0 hx113_0 hx114_0 hHeld ⊢
            refine pu_ 0 (some 39) (m_ 14 1) rfl rfl (ao HT_) ?_
            refine pu_ 1 (some 40) (m_ 14 3) rfl rfl (ao HT_) ?_
            refine pu_ 4 (some 43) (m_ 14 19) rfl rfl (ao HT_) ?_
            refine pu_ 5 (some 44) (m_ 14 51) rfl rfl (ao HT_) ?_
            refine pu_ 6 (some 45) (m_ 14 115) rfl rfl (ao HT_) ?_
            refine pu_ 8 (some 47) (m_ 14 371) rfl rfl (ao HT_) ?_
            refine tk_ 7 (some 46) (m_ 14 499) rfl rfl (tw HT_ HW_) hHeld ?_
            refine pu_ 9 (some 48) (m_ 14 1011) rfl rfl (ao HT_) ?_
            refine tk_ 10 (some 49) (m_ 14 2035) rfl rfl (tw HT_ HW_) hHeld ?_
            refine pu_ 11 (some 50) (m_ 14 4083) rfl rfl (ao HT_) ?_
            refine o1_ 2 (some 41) (m_ 14 4087) rfl rfl (oo HT_) (fun K hK => ?_)
            refine gs_ rfl Tryz.func9 (carrefourref29_Width.calls _ _ _ _ _ _ _ ?side1 ?side2 A9.out) ag ?_
            (case side1 => repeat (first | exact (Kd.C_below HR0.out HB.out) | (with_reducible refine Kd.C_alloc ?_ _) | (with_reducible refine Kd.C_drewN ?_ _) | (with_reducible refine Kd.C_drew ?_)))
            (case side2 => exact HC0.out)
            intro w11 hb
            replace HB := bs HB hb
            (try clear hb)
            refine hK.out _ _ ⟨(hx_ HB hw113_0 :), (hx_ HB hw114_0 :)⟩ (fun hHeld => ?_)
            clear hK K
            refine nr_ (some 41) ?_
            refine pu_ 3 (some 42) (m_ 14 4095) rfl rfl (ao HT_) ?_
            refine pu_ 12 (some 51) (m_ 14 8191) rfl rfl (ao HT_) ?_
            refine pu_ 13 (some 6) (m_ 14 16383) rfl rfl (ao HT_) ?_
            refine done_ (done_of HT_.out (by kernel_rfl)) ?_
            try go_wp2
            go_loopg [3, 6] k2 (fun kq v3 v6 w' => ∃ (x3_3 : ByteArray) (x6_3 : Int), v3 = .string x3_3 ∧ v6 = .int .i64 x6_3 ∧ Aside0 (carrefourref29_Table.l2 kq l0 x3_3 x4_1 x5_2 x6_3 = some r) ∧ Aside0 (kq ≤ k2) ∧ Aside0 (Below w.heap.size w w'))
            case atStart => exact ⟨(x3_2 ++ (rdOf ByteArray.empty (rd_L1 l0 x4_1) x5_2)), (wrap64 ((wrap64 (t112 + 2)) - ((rdOf ByteArray.empty (rd_L1 l0 x4_1) x5_2).size : Int))), (aq), (aq), H', ⟨Nat.le_refl _⟩, ⟨bf HB⟩⟩
            case round =>
             clear H'
             (try clear c1); (try clear p1); (try clear q1); (try clear hx1); (try clear c2); (try clear c2b0); (try clear p2); (try clear c3); (try clear c3b0); (try clear c4); (try clear c4b0); (try clear c5); (try clear c5b0); (try clear c6); (try clear c6b0); (try clear p6); (try clear c7); (try clear c7b0); (try clear c7b1); (try clear c7b2); (try clear c8); (try clear c8b0); (try clear c9); (try clear c10); (try clear p10); (try clear q10); (try clear hx10); (try clear c11); (try clear p11); (try clear q11); (try clear hx11); (try clear hx108_0); (try clear hx109_0); (try clear hx110_0); (try clear hx111_0); (try clear hx113_0); (try clear hx114_0); (try clear p108); (try clear p109); (try clear p110); (try clear p111); (try clear p113); (try clear p114); (try clear p2); (try clear q108); (try clear q109); (try clear q110); (try clear q111); (try clear q113); (try clear q114)
             obtain ⟨x3_3, x6_3, rfl, rfl, HA, HK3, HB⟩ := hrel
             cases gk with
             | zero => exact absurd HA.out (by simp [carrefourref29_Table.l2])
             | succ k3 =>
              have H := HA.out
              clear HA
              simp only [carrefourref29_Table.l2] at H
              by_cases c12 : x6_3 > 0
              ·rw [if_pos c12] at H
               have c12b0 : decide (0 < x6_3) = true := decide_eq_true c12
               clear c12
               by_cases c13 : x3_3.size + 1 ≤ 9223372036854775807
               ·rw [if_pos c13] at H
                have c13b0 := eq_true c13
                have c13b1 : decide (x3_3.size + 1 ≤ 9223372036854775807) = true := decide_eq_true c13
                try have c13b2 : (9223372036854775807 < x3_3.size + 1) = False := eq_false (Nat.not_lt.2 c13)
                have H' := Aside0.mk H
                clear H
                go_wp2
                go_roundg k3
                case measure => have := HK1.out; have := HK2.out; have := HK3.out; omega
                case rel => exact ⟨(x3_3 ++ (⟨#[32]⟩ : ByteArray)), (wrap64 (x6_3 - 1)), (aq), (aq), H', ⟨by have := HK1.out; have := HK2.out; have := HK3.out; omega⟩, ⟨bf HB⟩⟩
               ·rw [if_neg c13] at H
                exact absurd H (by simp)
              ·rw [if_neg c12] at H
               have c12b0 : decide (0 < x6_3) = false := decide_eq_false c12
               clear c12
               have H' := Aside0.mk H
               clear H
               go_wp2
               go_roundg k3
               case measure => have := HK1.out; have := HK2.out; have := HK3.out; omega
               case rel => exact ⟨(x3_3), (wrap64 (x5_2 + 1)), (aq), (aq), H', ⟨by have := HK1.out; have := HK2.out; have := HK3.out; omega⟩, ⟨bf HB⟩⟩
           ·rw [if_neg c8] at H
            have c8b0 : decide (x5_2 < (wrap64 (((rd_L1 l0 x4_1).length : Int) - 1))) = false := decide_eq_false c8
            clear c8
            have H' := Aside0.mk H
            clear H
            have p108 : 0 ≤ (x4_1 : Int) := od_
            have q108 : x4_1 < (l0.length : Int) := od_
            obtain ⟨ad108, A108_0, c108_0, e108, hx108_0, hl108_0, hi108_0⟩ := at_L1 HR0.out x4_1 p108 q108
            cases e108
            replace hx108_0 := hx_ HB hx108_0
            have HR108_0 := Aside0.mk hi108_0
            have HC108_0 := Aside0.mk hl108_0
            clear hi108_0 hl108_0
            replace p108 := eq_true p108
            replace q108 := eq_true q108
            have p109 : 0 ≤ (x4_1 : Int) := od_
            have q109 : x4_1 < (l0.length : Int) := od_
            obtain ⟨ad109, A109_0, c109_0, e109, hx109_0, hl109_0, hi109_0⟩ := at_L1 HR0.out x4_1 p109 q109
            obtain rfl : ad108 = ad109 := (by injection e109)
            replace hx109_0 := hx_ HB hx109_0
            have HR109_0 := Aside0.mk hi109_0
            have HC109_0 := Aside0.mk hl109_0
            clear hi109_0 hl109_0
            replace p109 := eq_true p109
            replace q109 := eq_true q109
            have ea_ := Option.some.inj (hx108_0.symm.trans hx109_0)
            injection ea_ with ea_ en_ ec_
            subst ea_
            subst ec_
            clear en_
            have p110 : 0 ≤ (x5_2 : Int) := od_
            have q110 : x5_2 < ((rd_L1 l0 x4_1).length : Int) := od_
            obtain ⟨ad110, e110, hx110_0⟩ := Kd.at_string HR109_0.out x5_2 p110 q110
            cases e110
            replace hx110_0 := hx_ HB hx110_0
            replace p110 := eq_true p110
            replace q110 := eq_true q110
            have p111 : 0 ≤ (x4_1 : Int) := od_
            have q111 : x4_1 < (l0.length : Int) := od_
            obtain ⟨ad111, A111_0, c111_0, e111, hx111_0, hl111_0, hi111_0⟩ := at_L1 HR0.out x4_1 p111 q111
            obtain rfl : ad108 = ad111 := (by injection e111)
            replace hx111_0 := hx_ HB hx111_0
            have HR111_0 := Aside0.mk hi111_0
            have HC111_0 := Aside0.mk hl111_0
            clear hi111_0 hl111_0
            replace p111 := eq_true p111
            replace q111 := eq_true q111
            have ea_ := Option.some.inj (hx108_0.symm.trans hx111_0)
            injection ea_ with ea_ en_ ec_
            subst ea_
            subst ec_
            clear en_
            go_wp2
            go_roundg k2
            case measure => have := HK1.out; have := HK2.out; omega
            case rel => exact ⟨(x3_2 ++ (rdOf ByteArray.empty (rd_L1 l0 x4_1) x5_2)), (wrap64 (x5_2 + 1)), (aq), (aq), H', ⟨by have := HK1.out; have := HK2.out; omega⟩, ⟨bf HB⟩⟩
          ·rw [if_neg c7] at H
           exact absurd H (by simp)
         ·rw [if_neg c6] at H
          exact absurd H (by simp)
        ·rw [if_neg c5] at H
         have c5b0 : decide (x5_2 < ((rd_L1 l0 x4_1).length : Int)) = false := decide_eq_false c5
         clear c5
         by_cases c14 : x3_2.size + 1 ≤ 9223372036854775807
         ·rw [if_pos c14] at H
          have c14b0 := eq_true c14
          have c14b1 : decide (x3_2.size + 1 ≤ 9223372036854775807) = true := decide_eq_true c14
          try have c14b2 : (9223372036854775807 < x3_2.size + 1) = False := eq_false (Nat.not_lt.2 c14)
          have H' := Aside0.mk H
          clear H
          have p108 : 0 ≤ (x4_1 : Int) := od_
          have q108 : x4_1 < (l0.length : Int) := od_
          obtain ⟨ad108, A108_0, c108_0, e108, hx108_0, hl108_0, hi108_0⟩ := at_L1 HR0.out x4_1 p108 q108
          cases e108
          replace hx108_0 := hx_ HB hx108_0
          have HR108_0 := Aside0.mk hi108_0
          have HC108_0 := Aside0.mk hl108_0
          clear hi108_0 hl108_0
          replace p108 := eq_true p108
          replace q108 := eq_true q108
          go_wp2
          go_roundg k2
          case measure => have := HK1.out; have := HK2.out; omega
          case rel => exact ⟨(x3_2 ++ (⟨#[10]⟩ : ByteArray)), (wrap64 (x4_1 + 1)), (aq), (aq), H', ⟨by have := HK1.out; have := HK2.out; omega⟩, ⟨bf HB⟩⟩
         ·rw [if_neg c14] at H
          exact absurd H (by simp)
       ·rw [if_neg c4] at H
        exact absurd H (by simp)
      ·rw [if_neg c3] at H
       exact absurd H (by simp)
   ·rw [if_neg c2] at H
    have c2b0 : decide (x4_1 < (l0.length : Int)) = false := decide_eq_false c2
    clear c2
    obtain rfl := Option.some.inj H
    go_wp2
    go_ret
    exact ⟨ae, bf HB⟩


/-! ### report_Width: function 8 -/
/-! ### carrefourlaw29_awake: function 10 -/
/-! ### carrefourlaw29_ReportTable: function 3 -/
theorem carrefourlaw29_ReportTable.calls (k : Nat) (A0 : Option Addr) (c0 : Nat) (l0 : List (List ByteArray)) (a1 : Int) (r : Bool) (w : World) (hr0 : Kd.C (Kd.slice 9 Kd.string) w A0 l0.length l0) (hc0 : l0.length ≤ c0) (h : carrefourlaw29_ReportTable.f k l0 a1 = some r) (hT : TabOK w) :
  Calls Tryz.prog 3 #[.slice A0 l0.length c0, .int .i64 a1] w fun e w' => e = .returned (.bool r) ∧ Below w.heap.size w w' := by
 have GT := Aside0.mk hT
 clear hT
 have HR0 := Aside0.mk hr0
 have HC0 := Aside0.mk hc0
 clear hr0 hc0
 have HB := Aside0.mk (Below.refl w.heap.size w)
 have H : ((carrefourlaw29_few.f k l0).bind fun t115 => (if t115 = true then ((report_Table.f k l0).bind fun t116 => ((carrefourref29_Table.f k l0).bind fun t117 => (if t116.toList = t117.toList then ((report_Width.f k l0 a1).bind fun t118 => ((carrefourref29_Width.f k l0 a1).bind fun t119 => (if t118 = t119 then ((carrefourlaw29_awake.f).bind fun t120 => (some t120)) else (some false)))) else (some false)))) else (some true))) = some r := h
 clear h
 replace H := bi_ H; obtain ⟨t115, A3, H⟩ := H
 (try dsimp only at H)
 by_cases c4 : t115 = true
 ·subst c4
  have H1 : ((report_Table.f k l0).bind fun t116 => ((carrefourref29_Table.f k l0).bind fun t117 => (if t116.toList = t117.toList then ((report_Width.f k l0 a1).bind fun t118 => ((carrefourref29_Width.f k l0 a1).bind fun t119 => (if t118 = t119 then ((carrefourlaw29_awake.f).bind fun t120 => (some t120)) else (some false)))) else (some false)))) = some r := by rw [if_pos rfl] at H; exact H
  clear H
  have H := H1
  clear H1
  replace H := bi_ H; obtain ⟨t116, A5, H⟩ := H
  (try dsimp only at H)
  replace H := bi_ H; obtain ⟨t117, A6, H⟩ := H
  (try dsimp only at H)
  by_cases c7 : t116.toList = t117.toList
  ·rw [if_pos c7] at H
   have c7b0 : (t116.toList == t117.toList) = true := beq_iff_eq.mpr c7
   have c7b1 : (t116.toList != t117.toList) = false := bne_eq_false_iff_eq.mpr c7
   clear c7
   replace H := bi_ H; obtain ⟨t118, A8, H⟩ := H
   (try dsimp only at H)
   replace H := bi_ H; obtain ⟨t119, A9, H⟩ := H
   (try dsimp only at H)
   by_cases c10 : t118 = t119
   ·rw [if_pos c10] at H
    have c10b0 : (t118 == t119) = true := beq_iff_eq.mpr c10
    have c10b1 : (t118 != t119) = false := bne_eq_false_iff_eq.mpr c10
    clear c10
    replace H := bi_ H; obtain ⟨t120, A11, H⟩ := H
    (try dsimp only at H)
    obtain rfl := Option.some.inj H
    go_enter Tryz.func3, Tryz.ntmps3
    go_wp2_with (first | ((with_reducible refine gc 5 rfl ?_); refine gm_ (some 6) rfl rfl Tryz.func5 (carrefourlaw29_few.calls _ _ _ _ _ _ ?side1 ?side2 A3.out) ag ?_; (case side1 => repeat (first | exact HR0.out | (with_reducible refine Kd.C_alloc ?_ _) | (with_reducible refine Kd.C_drewN ?_ _) | (with_reducible refine Kd.C_drew ?_))); (case side2 => exact HC0.out); rintro w' ⟨nd, rfl⟩) | ((with_reducible refine gc 6 rfl ?_); refine gm_ (some 9) rfl rfl Tryz.func6 (report_Table.calls _ _ _ _ _ _ ?side1 ?side2 A5.out) ag ?_; (case side1 => repeat (first | exact HR0.out | (with_reducible refine Kd.C_alloc ?_ _) | (with_reducible refine Kd.C_drewN ?_ _) | (with_reducible refine Kd.C_drew ?_))); (case side2 => exact HC0.out); intro w12 hb; replace HB := bs HB hb; (try clear hb)) | ((with_reducible refine gc 7 rfl ?_); refine gm_ (some 11) rfl rfl Tryz.func7 (carrefourref29_Table.calls _ _ _ _ _ _ ?side1 ?side2 A6.out) ag ?_; (case side1 => repeat (first | exact (Kd.C_below HR0.out HB.out) | (with_reducible refine Kd.C_alloc ?_ _) | (with_reducible refine Kd.C_drewN ?_ _) | (with_reducible refine Kd.C_drew ?_))); (case side2 => exact HC0.out); intro w13 hb; replace HB := bs HB hb; (try clear hb)) | (go_at_call 8; (with_reducible refine (report_Width.calls _ _ _ _ _ _ _ ?side1 ?side2 A8.out).mono ?_); (case side1 => repeat (first | exact (Kd.C_below HR0.out HB.out) | (with_reducible refine Kd.C_alloc ?_ _) | (with_reducible refine Kd.C_drewN ?_ _) | (with_reducible refine Kd.C_drew ?_))); (case side2 => exact HC0.out); rintro e w14 ⟨rfl, hb⟩; replace HB := bs HB hb; (try clear hb)) | (go_at_call 9; (with_reducible refine (carrefourref29_Width.calls _ _ _ _ _ _ _ ?side1 ?side2 A9.out).mono ?_); (case side1 => repeat (first | exact (Kd.C_below HR0.out HB.out) | (with_reducible refine Kd.C_alloc ?_ _) | (with_reducible refine Kd.C_drewN ?_ _) | (with_reducible refine Kd.C_drew ?_))); (case side2 => exact HC0.out); rintro e w15 ⟨rfl, hb⟩; replace HB := bs HB hb; (try clear hb)) | (go_at_call 10; (with_reducible refine (carrefourlaw29_awake.calls _ _ A11.out (tt GT)).mono ?_); rintro e w16 ⟨rfl, hb⟩; replace HB := bs HB hb; (try clear hb)))
    go_ret
    exact ⟨ae, bf HB⟩
   ·rw [if_neg c10] at H
    have c10b0 : (t118 == t119) = false := beq_eq_false_iff_ne.mpr c10
    have c10b1 : (t118 != t119) = true := bne_iff_ne.mpr c10
    obtain rfl := Option.some.inj H
    go_enter Tryz.func3, Tryz.ntmps3
    go_wp2_with (first | ((with_reducible refine gc 5 rfl ?_); refine gm_ (some 6) rfl rfl Tryz.func5 (carrefourlaw29_few.calls _ _ _ _ _ _ ?side1 ?side2 A3.out) ag ?_; (case side1 => repeat (first | exact HR0.out | (with_reducible refine Kd.C_alloc ?_ _) | (with_reducible refine Kd.C_drewN ?_ _) | (with_reducible refine Kd.C_drew ?_))); (case side2 => exact HC0.out); rintro w' ⟨nd, rfl⟩) | ((with_reducible refine gc 6 rfl ?_); refine gm_ (some 9) rfl rfl Tryz.func6 (report_Table.calls _ _ _ _ _ _ ?side1 ?side2 A5.out) ag ?_; (case side1 => repeat (first | exact HR0.out | (with_reducible refine Kd.C_alloc ?_ _) | (with_reducible refine Kd.C_drewN ?_ _) | (with_reducible refine Kd.C_drew ?_))); (case side2 => exact HC0.out); intro w17 hb; replace HB := bs HB hb; (try clear hb)) | ((with_reducible refine gc 7 rfl ?_); refine gm_ (some 11) rfl rfl Tryz.func7 (carrefourref29_Table.calls _ _ _ _ _ _ ?side1 ?side2 A6.out) ag ?_; (case side1 => repeat (first | exact (Kd.C_below HR0.out HB.out) | (with_reducible refine Kd.C_alloc ?_ _) | (with_reducible refine Kd.C_drewN ?_ _) | (with_reducible refine Kd.C_drew ?_))); (case side2 => exact HC0.out); intro w18 hb; replace HB := bs HB hb; (try clear hb)) | (go_at_call 8; (with_reducible refine (report_Width.calls _ _ _ _ _ _ _ ?side1 ?side2 A8.out).mono ?_); (case side1 => repeat (first | exact (Kd.C_below HR0.out HB.out) | (with_reducible refine Kd.C_alloc ?_ _) | (with_reducible refine Kd.C_drewN ?_ _) | (with_reducible refine Kd.C_drew ?_))); (case side2 => exact HC0.out); rintro e w19 ⟨rfl, hb⟩; replace HB := bs HB hb; (try clear hb)) | (go_at_call 9; (with_reducible refine (carrefourref29_Width.calls _ _ _ _ _ _ _ ?side1 ?side2 A9.out).mono ?_); (case side1 => repeat (first | exact (Kd.C_below HR0.out HB.out) | (with_reducible refine Kd.C_alloc ?_ _) | (with_reducible refine Kd.C_drewN ?_ _) | (with_reducible refine Kd.C_drew ?_))); (case side2 => exact HC0.out); rintro e w20 ⟨rfl, hb⟩; replace HB := bs HB hb; (try clear hb)))
    go_ret
    exact ⟨ae, bf HB⟩
  ·rw [if_neg c7] at H
   have c7b0 : (t116.toList == t117.toList) = false := beq_eq_false_iff_ne.mpr c7
   have c7b1 : (t116.toList != t117.toList) = true := bne_iff_ne.mpr c7
   obtain rfl := Option.some.inj H
   go_enter Tryz.func3, Tryz.ntmps3
   go_wp2_with (first | ((with_reducible refine gc 5 rfl ?_); refine gm_ (some 6) rfl rfl Tryz.func5 (carrefourlaw29_few.calls _ _ _ _ _ _ ?side1 ?side2 A3.out) ag ?_; (case side1 => repeat (first | exact HR0.out | (with_reducible refine Kd.C_alloc ?_ _) | (with_reducible refine Kd.C_drewN ?_ _) | (with_reducible refine Kd.C_drew ?_))); (case side2 => exact HC0.out); rintro w' ⟨nd, rfl⟩) | ((with_reducible refine gc 6 rfl ?_); refine gm_ (some 9) rfl rfl Tryz.func6 (report_Table.calls _ _ _ _ _ _ ?side1 ?side2 A5.out) ag ?_; (case side1 => repeat (first | exact HR0.out | (with_reducible refine Kd.C_alloc ?_ _) | (with_reducible refine Kd.C_drewN ?_ _) | (with_reducible refine Kd.C_drew ?_))); (case side2 => exact HC0.out); intro w21 hb; replace HB := bs HB hb; (try clear hb)) | ((with_reducible refine gc 7 rfl ?_); refine gm_ (some 11) rfl rfl Tryz.func7 (carrefourref29_Table.calls _ _ _ _ _ _ ?side1 ?side2 A6.out) ag ?_; (case side1 => repeat (first | exact (Kd.C_below HR0.out HB.out) | (with_reducible refine Kd.C_alloc ?_ _) | (with_reducible refine Kd.C_drewN ?_ _) | (with_reducible refine Kd.C_drew ?_))); (case side2 => exact HC0.out); intro w22 hb; replace HB := bs HB hb; (try clear hb)))
   go_ret
   exact ⟨ae, bf HB⟩
 ·replace c4 := Bool.eq_false_iff.mpr c4
  subst c4
  have H1 : (some true) = some r := by rw [if_neg (show ¬ (false = true) by decide)] at H; exact H
  clear H
  have H := H1
  clear H1
  obtain rfl := Option.some.inj H
  go_enter Tryz.func3, Tryz.ntmps3
  go_wp2_with (first | ((with_reducible refine gc 5 rfl ?_); refine gm_ (some 6) rfl rfl Tryz.func5 (carrefourlaw29_few.calls _ _ _ _ _ _ ?side1 ?side2 A3.out) ag ?_; (case side1 => repeat (first | exact HR0.out | (with_reducible refine Kd.C_alloc ?_ _) | (with_reducible refine Kd.C_drewN ?_ _) | (with_reducible refine Kd.C_drew ?_))); (case side2 => exact HC0.out); rintro w' ⟨nd, rfl⟩))
  go_ret
  exact ⟨ae, bf HB⟩

end Go.Proofs.YtkbffpadkdgbmaaGreatDoor.X
