/- Walks: each '.calls' says that the Go function comes to what its Lean function tells. Conditions: as each theorem's head says. -/
import Derived.Test.YtnhnmbfhepeadaaXD
import Derived.Test.YtnhnmbfhepeadaaX0
import Derived.Test.YtnhnmbfhepeadaaX1
import Derived.Test.YtnhnmbfhepeadaaX2
import Derived.Test.YtnhnmbfhepeadaaX3
namespace Go.Proofs.Ytnhnmbfhepeadaa.X
open Go.RowKit Go.Proofs.YtnhnmbfhepeadaaW.PrintWords Go.Proofs.YtnhnmbfhepeadaaW.PrintLast Go.Proofs.YtnhnmbfhepeadaaW.PrintMore
attribute [local go_sem] max2_int min2_int max_two min_two max_three min_three max_four min_four   -- for this text's walks alone
set_option linter.unusedVariables false
set_option maxHeartbeats 8000000
set_option maxRecDepth 100000
set_option linter.unusedSimpArgs false

/-! ### carrefourlaw13_OrderBack: function 6 -/
theorem carrefourlaw13_OrderBack.calls (k : Nat) (a0 : Int) (a1 : Int) (r : Bool) (w : World) (h : carrefourlaw13_OrderBack.f k a0 a1 = some r) :
    Calls Try.prog 6 #[.int .i64 a0, .int .i64 a1] w fun e w' => e = .returned (.bool r) ∧ Below w.heap.size w w' := by
  have HB := Aside0.mk (Below.refl w.heap.size w)
  have H : ((order_Nth.f k a0 a1).bind fun t144 => (if a1 < 0 then (carrefourlaw13_OrderBack.j0 k a0 a1 t144 true) else ((order_Count.f k a0).bind fun t147 => (carrefourlaw13_OrderBack.j0 k a0 a1 t144 (decide (a1 ≥ t147)))))) = some r := h
  clear h
  replace H := bi_ H; obtain ⟨t144, A3, H⟩ := H
  (try dsimp only at H)
  have HC4 := Aside0.mk H
  clear H
  go_enter Try.func6, Try.ntmps6
  go_upto_region 2 with (first | ((with_reducible refine gc 12 rfl ?_); refine gl_ (some 10) rfl rfl Try.func12 ((order_Nth.calls _ _ _ _ _ A3.out).mono ?_) ag; rintro e w5 ⟨v145, rfl, ho0, hb⟩; refine ⟨_, rfl, ?_⟩; have HO146 := Aside0.mk (Kd.R_lower ho0 (below_size (bf HB))); replace HB := bs HB hb; (try clear hb); (try clear ho0)))
  (try simp only [Act.put, si, s0, s1])
  go_cut [18] (fun v18 wc => ∃ (kq : Nat) (x18_3 : Bool), v18 = .bool x18_3 ∧ Aside0 (carrefourlaw13_OrderBack.j0 kq a0 a1 t144 x18_3 = some r) ∧ Aside0 (kq ≤ k) ∧ Aside0 (Kd.R (Kd.int .i64) 3 wc w.heap.size (fun _ => True) v145 t144) ∧ Aside0 (Below w.heap.size w wc))
  case first =>
    have H := HC4.out
    clear HC4
    by_cases c6 : a1 < 0
    · rw [if_pos c6] at H
      have c6b0 : decide (a1 < 0) = true := decide_eq_true c6
      clear c6
      (first | rw [c6b0] | (simp only [i64_w, i32_w]; rw [c6b0]) | skip)
      have H' := Aside0.mk H
      clear H
      go_wp2
      go_meet
      case rel => exact ⟨_, (true), (aq), H', ⟨by first | omega | exact Nat.le_refl _⟩, ⟨by (with_reducible repeat (first | apply Kd.R_alloc | apply Kd.R_drewN | apply Kd.R_drew)); exact HO146.out⟩, ⟨bf HB⟩⟩
    · rw [if_neg c6] at H
      have c6b0 : decide (a1 < 0) = false := decide_eq_false c6
      clear c6
      (first | rw [c6b0] | (simp only [i64_w, i32_w]; rw [c6b0]) | skip)
      replace H := bi_ H; obtain ⟨t147, A7, H⟩ := H
      (try dsimp only at H)
      have H' := Aside0.mk H
      clear H
      go_wp2_with (first | (go_at_call 8; (with_reducible refine (order_Count.calls _ _ _ _ A7.out).mono ?_); rintro e w' ⟨rfl, ⟨nd, rfl⟩⟩))
      go_meet
      case rel => exact ⟨_, (decide (a1 ≥ t147)), (aq), H', ⟨by first | omega | exact Nat.le_refl _⟩, ⟨by (with_reducible repeat (first | apply Kd.R_alloc | apply Kd.R_drewN | apply Kd.R_drew)); exact HO146.out⟩, ⟨bf HB⟩⟩
  case rest =>
    clear HC4
    try clear c1
    try clear p2
    try clear c6
    try clear c6b0
    obtain ⟨kq, x18_3, rfl, HA, HJ3, HO_5, HB⟩ := hcut
    cases kq with
    | zero => exact absurd HA.out (by simp [carrefourlaw13_OrderBack.j0])
    | succ kj3 =>
      have H := HA.out
      clear HA
      simp only [carrefourlaw13_OrderBack.j0] at H
      by_cases c8 : x18_3 = true
      · subst c8
        have H1 : (if (t144.length : Int) = 0 then ((carrefourlaw13_awake.f kj3).bind fun t148 => (some t148)) else (some false)) = some r := by rw [if_pos rfl] at H; exact H
        clear H
        have H := H1
        clear H1
        by_cases c9 : (t144.length : Int) = 0
        · rw [if_pos c9] at H
          have c9b0 : ((t144.length : Int) == 0) = true := beq_iff_eq.mpr c9
          have c9b1 : ((t144.length : Int) != 0) = false := bne_eq_false_iff_eq.mpr c9
          clear c9
          replace H := bi_ H; obtain ⟨t148, A10, H⟩ := H
          (try dsimp only at H)
          obtain rfl := Option.some.inj H
          obtain ⟨Ao11, co11, eo11⟩ := Kd.R_slice HO_5.out
          subst eo11
          go_wp2_with (first | (go_at_call 10; (with_reducible refine (carrefourlaw13_awake.calls kj3 _ _ A10.out).mono ?_); rintro e w12 ⟨rfl, hb⟩; replace HO_5 := Aside0.mk (Kd.R_below (by (with_reducible repeat (first | apply Kd.R_alloc | apply Kd.R_drewN | apply Kd.R_drew)); exact HO_5.out) hb); replace HB := bs HB hb; (try clear hb)))
          go_ret
          exact ⟨ae, bf HB⟩
        · rw [if_neg c9] at H
          have c9b0 : ((t144.length : Int) == 0) = false := beq_eq_false_iff_ne.mpr c9
          have c9b1 : ((t144.length : Int) != 0) = true := bne_iff_ne.mpr c9
          have c9b2 : ¬ (t144 = []) := fun h_ => c9 (by rw [h_]; rfl)
          obtain rfl := Option.some.inj H
          obtain ⟨Ao13, co13, eo13⟩ := Kd.R_slice HO_5.out
          subst eo13
          go_wp2
          go_ret
          exact ⟨ae, bf HB⟩
      · replace c8 := Bool.eq_false_iff.mpr c8
        subst c8
        have H1 : ((carrefourref13_Right.f kj3 t144).bind fun t149 => (if t149 = true then (if (t144.length : Int) = a0 then ((order_Rank.f kj3 t144).bind fun t150 => (carrefourlaw13_OrderBack.j1 kj3 a0 a1 t144 (t150 != a1))) else (carrefourlaw13_OrderBack.j1 kj3 a0 a1 t144 true)) else (carrefourlaw13_OrderBack.j1 kj3 a0 a1 t144 true))) = some r := by rw [if_neg (show ¬ (false = true) by decide)] at H; exact H
        clear H
        have H := H1
        clear H1
        have HC14 := Aside0.mk H
        clear H
        go_upto_region 4 with (fail)
        go_cut [39] (fun v39 wc => ∃ (kq : Nat) (x39_13 : Bool), v39 = .bool x39_13 ∧ Aside0 (carrefourlaw13_OrderBack.j1 kq a0 a1 t144 x39_13 = some r) ∧ Aside0 (kq ≤ kj3) ∧ Aside0 (Kd.R (Kd.int .i64) 3 wc w.heap.size (fun _ => True) v145 t144) ∧ Aside0 (Below w.heap.size w wc))
        case first =>
          have H := HC14.out
          clear HC14
          replace H := bi_ H; obtain ⟨t149, A15, H⟩ := H
          (try dsimp only at H)
          by_cases c16 : t149 = true
          · subst c16
            have H1 : (if (t144.length : Int) = a0 then ((order_Rank.f kj3 t144).bind fun t150 => (carrefourlaw13_OrderBack.j1 kj3 a0 a1 t144 (t150 != a1))) else (carrefourlaw13_OrderBack.j1 kj3 a0 a1 t144 true)) = some r := by rw [if_pos rfl] at H; exact H
            clear H
            have H := H1
            clear H1
            by_cases c17 : (t144.length : Int) = a0
            · rw [if_pos c17] at H
              have c17b0 : ((t144.length : Int) == a0) = true := beq_iff_eq.mpr c17
              have c17b1 : ((t144.length : Int) != a0) = false := bne_eq_false_iff_eq.mpr c17
              clear c17
              (first | rw [c17b0] | (simp only [i64_w, i32_w]; rw [c17b0]) | skip)
              replace H := bi_ H; obtain ⟨t150, A18, H⟩ := H
              (try dsimp only at H)
              have H' := Aside0.mk H
              clear H
              obtain ⟨Ao19, co19, eo19⟩ := Kd.R_slice HO_5.out
              subst eo19
              go_wp2_with (first | ((with_reducible refine gc 20 rfl ?_); refine gm_ (some 26) rfl rfl Try.func20 (carrefourref13_Right.calls kj3 _ _ _ _ _ ?side1 ?side2 A15.out) ag ?_; (case side1 => repeat (first | exact (Kd.R_reads' HO_5.out).2.2 | (with_reducible refine Kd.C_alloc ?_ _) | (with_reducible refine Kd.C_drewN ?_ _) | (with_reducible refine Kd.C_drew ?_))); (case side2 => exact (Kd.R_reads' HO_5.out).2.1); rintro w' ⟨nd, rfl⟩) | (go_at_call 16; (with_reducible refine (order_Rank.calls kj3 _ _ _ _ _ ?side1 ?side2 A18.out).mono ?_); (case side1 => repeat (first | exact (Kd.R_reads' HO_5.out).2.2 | (with_reducible refine Kd.C_alloc ?_ _) | (with_reducible refine Kd.C_drewN ?_ _) | (with_reducible refine Kd.C_drew ?_))); (case side2 => exact (Kd.R_reads' HO_5.out).2.1); rintro e w20 ⟨rfl, hb⟩; replace HO_5 := Aside0.mk (Kd.R_below (by (with_reducible repeat (first | apply Kd.R_alloc | apply Kd.R_drewN | apply Kd.R_drew)); exact HO_5.out) hb); replace HB := bs HB hb; (try clear hb)))
              go_meet
              case rel => exact ⟨_, ((t150 != a1)), (aq), H', ⟨by have := HJ3.out; first | omega | exact Nat.le_refl _⟩, ⟨by (with_reducible repeat (first | apply Kd.R_alloc | apply Kd.R_drewN | apply Kd.R_drew)); exact HO_5.out⟩, ⟨bf HB⟩⟩
            · rw [if_neg c17] at H
              have c17b0 : ((t144.length : Int) == a0) = false := beq_eq_false_iff_ne.mpr c17
              have c17b1 : ((t144.length : Int) != a0) = true := bne_iff_ne.mpr c17
              (first | rw [c17b0] | (simp only [i64_w, i32_w]; rw [c17b0]) | skip)
              have H' := Aside0.mk H
              clear H
              obtain ⟨Ao21, co21, eo21⟩ := Kd.R_slice HO_5.out
              subst eo21
              go_wp2_with (first | ((with_reducible refine gc 20 rfl ?_); refine gm_ (some 26) rfl rfl Try.func20 (carrefourref13_Right.calls kj3 _ _ _ _ _ ?side1 ?side2 A15.out) ag ?_; (case side1 => repeat (first | exact (Kd.R_reads' HO_5.out).2.2 | (with_reducible refine Kd.C_alloc ?_ _) | (with_reducible refine Kd.C_drewN ?_ _) | (with_reducible refine Kd.C_drew ?_))); (case side2 => exact (Kd.R_reads' HO_5.out).2.1); rintro w' ⟨nd, rfl⟩))
              go_meet
              case rel => exact ⟨_, (true), (aq), H', ⟨by have := HJ3.out; first | omega | exact Nat.le_refl _⟩, ⟨by (with_reducible repeat (first | apply Kd.R_alloc | apply Kd.R_drewN | apply Kd.R_drew)); exact HO_5.out⟩, ⟨bf HB⟩⟩
          · replace c16 := Bool.eq_false_iff.mpr c16
            subst c16
            have H1 : (carrefourlaw13_OrderBack.j1 kj3 a0 a1 t144 true) = some r := by rw [if_neg (show ¬ (false = true) by decide)] at H; exact H
            clear H
            have H := H1
            clear H1
            have H' := Aside0.mk H
            clear H
            obtain ⟨Ao22, co22, eo22⟩ := Kd.R_slice HO_5.out
            subst eo22
            go_wp2_with (first | ((with_reducible refine gc 20 rfl ?_); refine gm_ (some 26) rfl rfl Try.func20 (carrefourref13_Right.calls kj3 _ _ _ _ _ ?side1 ?side2 A15.out) ag ?_; (case side1 => repeat (first | exact (Kd.R_reads' HO_5.out).2.2 | (with_reducible refine Kd.C_alloc ?_ _) | (with_reducible refine Kd.C_drewN ?_ _) | (with_reducible refine Kd.C_drew ?_))); (case side2 => exact (Kd.R_reads' HO_5.out).2.1); rintro w' ⟨nd, rfl⟩))
            go_meet
            case rel => exact ⟨_, (true), (aq), H', ⟨by have := HJ3.out; first | omega | exact Nat.le_refl _⟩, ⟨by (with_reducible repeat (first | apply Kd.R_alloc | apply Kd.R_drewN | apply Kd.R_drew)); exact HO_5.out⟩, ⟨bf HB⟩⟩
        case rest =>
          clear HC14
          try clear c1
          try clear c2
          try clear p2
          try clear c6
          try clear c6b0
          try clear c8
          try clear c9
          try clear c9b0
          try clear c9b1
          try clear c9b2
          try clear c12
          try clear c16
          try clear c17
          try clear c17b0
          try clear c17b1
          try clear c20
          try clear p2
          obtain ⟨kq, x39_13, rfl, HA, HJ13, HO_5, HB⟩ := hcut
          cases kq with
          | zero => exact absurd HA.out (by simp [carrefourlaw13_OrderBack.j1])
          | succ kj13 =>
            have H := HA.out
            clear HA
            simp only [carrefourlaw13_OrderBack.j1] at H
            by_cases c23 : x39_13 = true
            · subst c23
              have H1 : (some false) = some r := by rw [if_pos rfl] at H; exact H
              clear H
              have H := H1
              clear H1
              obtain rfl := Option.some.inj H
              go_wp2
              go_ret
              exact ⟨ae, bf HB⟩
            · replace c23 := Bool.eq_false_iff.mpr c23
              subst c23
              have H1 : ((order_Next.f kj13 t144).bind fun bt151 => ((order_Count.f kj13 a0).bind fun t155 => (if (bt151.2 != (decide (a1 < (wrap64 (t155 - 1))))) = true then (carrefourlaw13_OrderBack.j2 kj13 t144 true) else (if bt151.2 = true then ((order_Rank.f kj13 bt151.1).bind fun t156 => (carrefourlaw13_OrderBack.j2 kj13 t144 (t156 != (wrap64 (a1 + 1))))) else (carrefourlaw13_OrderBack.j2 kj13 t144 false))))) = some r := by rw [if_neg (show ¬ (false = true) by decide)] at H; exact H
              clear H
              have H := H1
              clear H1
              replace H := bi_ H; obtain ⟨⟨t151, t152⟩, A24, H⟩ := H
              (try dsimp only at H)
              have HC25 := Aside0.mk H
              clear H
              obtain ⟨Ao26, co26, eo26⟩ := Kd.R_slice HO_5.out
              subst eo26
              go_upto_region 7 with (first | ((with_reducible refine gc 14 rfl ?_); refine gl_ (some 42) rfl rfl Try.func14 ((order_Next.calls kj13 _ _ _ _ _ _ ?side1 ?side2 A24.out).mono ?_) ag; (case side1 => repeat (first | exact (Kd.R_reads' HO_5.out).2.2 | (with_reducible refine Kd.C_alloc ?_ _) | (with_reducible refine Kd.C_drewN ?_ _) | (with_reducible refine Kd.C_drew ?_))); (case side2 => exact (Kd.R_reads' HO_5.out).2.1); rintro e w27 ⟨v153, rfl, ho0, hb⟩; refine ⟨_, rfl, ?_⟩; have HO154 := Aside0.mk (Kd.R_lower (Kd.R_new' ho0 (Kd.R_lt (by (with_reducible repeat (first | apply Kd.R_alloc | apply Kd.R_drewN | apply Kd.R_drew)); exact HO_5.out))) (below_size (bf HB))); replace HO_5 := Aside0.mk (Kd.R_elder' (by (with_reducible repeat (first | apply Kd.R_alloc | apply Kd.R_drewN | apply Kd.R_drew)); exact HO_5.out) (Kd.R_base ho0) hb); replace HB := bs HB hb; (try clear hb); (try clear ho0)))
              (try simp only [Act.put, si, s0, s1])
              go_cut [61] (fun v61 wc => ∃ (kq : Nat) (x61_24 : Bool), v61 = .bool x61_24 ∧ Aside0 (carrefourlaw13_OrderBack.j2 kq t144 x61_24 = some r) ∧ Aside0 (kq ≤ kj13) ∧ Aside0 (Kd.R (Kd.int .i64) 3 wc w.heap.size (fun _ => True) (.slice Ao26 t144.length co26) t144) ∧ Aside0 (Below w.heap.size w wc))
              case first =>
                have H := HC25.out
                clear HC25
                replace H := bi_ H; obtain ⟨t155, A28, H⟩ := H
                (try dsimp only at H)
                by_cases c29 : (t152 != (decide (a1 < (wrap64 (t155 - 1))))) = true
                · rw [if_pos c29] at H
                  have c29b0 : (t152 != (decide (a1 < (wrap64 (t155 - 1))))) = true := c29
                  (try (have c29b1 : decide (t152 = (decide (a1 < (wrap64 (t155 - 1))))) = false := by simpa using c29))
                  (try (have c29b2 : (t152 == (decide (a1 < (wrap64 (t155 - 1))))) = false := by simpa using c29))
                  (try (have c29b3 : ¬ (t152 = (decide (a1 < (wrap64 (t155 - 1))))) := by simpa using c29))
                  clear c29
                  (first | rw [c29b0] | (simp only [i64_w, i32_w]; rw [c29b0]) | skip)
                  have H' := Aside0.mk H
                  clear H
                  go_wp2_with (first | ((with_reducible refine gc 8 rfl ?_); refine gm_ (some 48) rfl rfl Try.func8 (order_Count.calls kj13 _ _ _ A28.out) ag ?_; rintro w' ⟨nd, rfl⟩))
                  go_meet
                  case rel => exact ⟨_, (true), (aq), H', ⟨by have := HJ3.out; have := HJ13.out; first | omega | exact Nat.le_refl _⟩, ⟨by (with_reducible repeat (first | apply Kd.R_alloc | apply Kd.R_drewN | apply Kd.R_drew)); exact Kd.R_mono HO_5.out (fun _ hk => trivial)⟩, ⟨bf HB⟩⟩
                · rw [if_neg c29] at H
                  have c29b0 : (t152 != (decide (a1 < (wrap64 (t155 - 1))))) = false := by simpa using c29
                  (try (have c29b1 : decide (t152 = (decide (a1 < (wrap64 (t155 - 1))))) = true := by simpa using c29))
                  (try (have c29b2 : (t152 == (decide (a1 < (wrap64 (t155 - 1))))) = true := by simpa using c29))
                  clear c29
                  (first | rw [c29b0] | (simp only [i64_w, i32_w]; rw [c29b0]) | skip)
                  by_cases c30 : t152 = true
                  · subst c30
                    have H1 : ((order_Rank.f kj13 t151).bind fun t156 => (carrefourlaw13_OrderBack.j2 kj13 t144 (t156 != (wrap64 (a1 + 1))))) = some r := by rw [if_pos rfl] at H; exact H
                    clear H
                    have H := H1
                    clear H1
                    replace H := bi_ H; obtain ⟨t156, A31, H⟩ := H
                    (try dsimp only at H)
                    have H' := Aside0.mk H
                    clear H
                    go_wp2_with (first | ((with_reducible refine gc 8 rfl ?_); refine gm_ (some 48) rfl rfl Try.func8 (order_Count.calls kj13 _ _ _ A28.out) ag ?_; rintro w' ⟨nd, rfl⟩; obtain ⟨Ao32, co32, eo32⟩ := Kd.R_slice HO154.out; subst eo32) | (go_at_call 16; (with_reducible refine (order_Rank.calls kj13 _ _ _ _ _ ?side1 ?side2 A31.out).mono ?_); (case side1 => exact rc HO154); (case side2 => exact (Kd.R_reads' HO154.out).2.1); rintro e w33 ⟨rfl, hb⟩; replace HO_5 := Aside0.mk (Kd.R_below (by (with_reducible repeat (first | apply Kd.R_alloc | apply Kd.R_drewN | apply Kd.R_drew)); exact HO_5.out) hb); replace HO154 := rb HO154 hb; replace HB := bs HB hb; (try clear hb)))
                    go_meet
                    case rel => exact ⟨_, ((t156 != (wrap64 (a1 + 1)))), (aq), H', ⟨by have := HJ3.out; have := HJ13.out; first | omega | exact Nat.le_refl _⟩, ⟨by (with_reducible repeat (first | apply Kd.R_alloc | apply Kd.R_drewN | apply Kd.R_drew)); exact Kd.R_mono HO_5.out (fun _ hk => trivial)⟩, ⟨bf HB⟩⟩
                  · replace c30 := Bool.eq_false_iff.mpr c30
                    subst c30
                    have H1 : (carrefourlaw13_OrderBack.j2 kj13 t144 false) = some r := by rw [if_neg (show ¬ (false = true) by decide)] at H; exact H
                    clear H
                    have H := H1
                    clear H1
                    have H' := Aside0.mk H
                    clear H
                    go_wp2_with (first | ((with_reducible refine gc 8 rfl ?_); refine gm_ (some 48) rfl rfl Try.func8 (order_Count.calls kj13 _ _ _ A28.out) ag ?_; rintro w' ⟨nd, rfl⟩))
                    go_meet
                    case rel => exact ⟨_, (false), (aq), H', ⟨by have := HJ3.out; have := HJ13.out; first | omega | exact Nat.le_refl _⟩, ⟨by (with_reducible repeat (first | apply Kd.R_alloc | apply Kd.R_drewN | apply Kd.R_drew)); exact Kd.R_mono HO_5.out (fun _ hk => trivial)⟩, ⟨bf HB⟩⟩
              case rest =>
                clear HC25
                try clear c1
                try clear c2
                try clear p2
                try clear c3
                try clear c6
                try clear c6b0
                try clear p6
                try clear c8
                try clear c9
                try clear c9b0
                try clear c9b1
                try clear c9b2
                try clear c12
                try clear c14
                try clear c16
                try clear c17
                try clear c17b0
                try clear c17b1
                try clear c20
                try clear c23
                try clear c29
                try clear c29b0
                try clear c29b1
                try clear c29b2
                try clear c30
                try clear p2
                obtain ⟨kq, x61_24, rfl, HA, HJ24, HO_5, HB⟩ := hcut
                cases kq with
                | zero => exact absurd HA.out (by simp [carrefourlaw13_OrderBack.j2])
                | succ kj24 =>
                  have H := HA.out
                  clear HA
                  simp only [carrefourlaw13_OrderBack.j2] at H
                  by_cases c34 : x61_24 = true
                  · subst c34
                    have H1 : (some false) = some r := by rw [if_pos rfl] at H; exact H
                    clear H
                    have H := H1
                    clear H1
                    obtain rfl := Option.some.inj H
                    go_wp2
                    go_ret
                    exact ⟨ae, bf HB⟩
                  · replace c34 := Bool.eq_false_iff.mpr c34
                    subst c34
                    have H1 : ((order_Turned.f kj24 t144).bind fun t157 => ((order_Turned.f kj24 t157).bind fun t160 => ((carrefourref13_Same.f kj24 t160 t144).bind fun t163 => (if t163 = true then ((carrefourlaw13_awake.f kj24).bind fun t164 => (some t164)) else (some false))))) = some r := by rw [if_neg (show ¬ (false = true) by decide)] at H; exact H
                    clear H
                    have H := H1
                    clear H1
                    replace H := bi_ H; obtain ⟨t157, A35, H⟩ := H
                    (try dsimp only at H)
                    replace H := bi_ H; obtain ⟨t160, A36, H⟩ := H
                    (try dsimp only at H)
                    replace H := bi_ H; obtain ⟨t163, A37, H⟩ := H
                    (try dsimp only at H)
                    by_cases c38 : t163 = true
                    · subst c38
                      have H1 : ((carrefourlaw13_awake.f kj24).bind fun t164 => (some t164)) = some r := by rw [if_pos rfl] at H; exact H
                      clear H
                      have H := H1
                      clear H1
                      replace H := bi_ H; obtain ⟨t164, A39, H⟩ := H
                      (try dsimp only at H)
                      obtain rfl := Option.some.inj H
                      go_wp2_with (first | ((with_reducible refine gc 18 rfl ?_); refine gl_ (some 63) rfl rfl Try.func18 ((order_Turned.calls kj24 _ _ _ _ _ ?side1 ?side2 A35.out).mono ?_) ag; (case side1 => repeat (first | exact (Kd.R_reads' HO_5.out).2.2 | (with_reducible refine Kd.C_alloc ?_ _) | (with_reducible refine Kd.C_drewN ?_ _) | (with_reducible refine Kd.C_drew ?_))); (case side2 => exact (Kd.R_reads' HO_5.out).2.1); rintro e w40 ⟨v158, rfl, ho0, hb⟩; refine ⟨_, rfl, ?_⟩; have HO159 := Aside0.mk (Kd.R_lower (Kd.R_new' ho0 (Kd.R_lt (by (with_reducible repeat (first | apply Kd.R_alloc | apply Kd.R_drewN | apply Kd.R_drew)); exact HO_5.out))) (below_size (bf HB))); replace HO_5 := Aside0.mk (Kd.R_elder' (by (with_reducible repeat (first | apply Kd.R_alloc | apply Kd.R_drewN | apply Kd.R_drew)); exact HO_5.out) (Kd.R_base ho0) hb); replace HB := bs HB hb; (try clear hb); (try clear ho0); obtain ⟨Ao41, co41, eo41⟩ := Kd.R_slice HO159.out; subst eo41) | ((with_reducible refine gc 18 rfl ?_); refine gl_ (some 64) rfl rfl Try.func18 ((order_Turned.calls kj24 _ _ _ _ _ ?side1 ?side2 A36.out).mono ?_) ag; (case side1 => exact rc HO159); (case side2 => exact (Kd.R_reads' HO159.out).2.1); rintro e w42 ⟨v161, rfl, ho0, hb⟩; refine ⟨_, rfl, ?_⟩; have HO162 := Aside0.mk (Kd.R_lower (Kd.R_new' (Kd.R_new' ho0 (Kd.R_lt (by (with_reducible repeat (first | apply Kd.R_alloc | apply Kd.R_drewN | apply Kd.R_drew)); exact HO_5.out))) (rl HO159)) (below_size (bf HB))); replace HO_5 := Aside0.mk (Kd.R_elder' (by (with_reducible repeat (first | apply Kd.R_alloc | apply Kd.R_drewN | apply Kd.R_drew)); exact HO_5.out) (Kd.R_base ho0) hb); replace HO159 := re_ HO159 (Kd.R_base ho0) hb; replace HB := bs HB hb; (try clear hb); (try clear ho0); obtain ⟨Ao43, co43, eo43⟩ := Kd.R_slice HO162.out; subst eo43) | ((with_reducible refine gc 11 rfl ?_); refine gm_ (some 66) rfl rfl Try.func11 (carrefourref13_Same.calls kj24 _ _ _ _ _ _ _ _ ?side1 ?side2 ?side3 ?side4 A37.out) ag ?_; (case side1 => exact rc HO162); (case side2 => exact (Kd.R_reads' HO162.out).2.1); (case side3 => repeat (first | exact (Kd.R_reads' HO_5.out).2.2 | (with_reducible refine Kd.C_alloc ?_ _) | (with_reducible refine Kd.C_drewN ?_ _) | (with_reducible refine Kd.C_drew ?_))); (case side4 => exact (Kd.R_reads' HO_5.out).2.1); rintro w' ⟨nd, rfl⟩) | (go_at_call 10; (with_reducible refine (carrefourlaw13_awake.calls kj24 _ _ A39.out).mono ?_); rintro e w44 ⟨rfl, hb⟩; replace HO_5 := Aside0.mk (Kd.R_below (by (with_reducible repeat (first | apply Kd.R_alloc | apply Kd.R_drewN | apply Kd.R_drew)); exact HO_5.out) hb); replace HO159 := rb HO159 hb; replace HO162 := rb HO162 hb; replace HB := bs HB hb; (try clear hb)))
                      go_ret
                      exact ⟨ae, bf HB⟩
                    · replace c38 := Bool.eq_false_iff.mpr c38
                      subst c38
                      have H1 : (some false) = some r := by rw [if_neg (show ¬ (false = true) by decide)] at H; exact H
                      clear H
                      have H := H1
                      clear H1
                      obtain rfl := Option.some.inj H
                      go_wp2_with (first | ((with_reducible refine gc 18 rfl ?_); refine gl_ (some 63) rfl rfl Try.func18 ((order_Turned.calls kj24 _ _ _ _ _ ?side1 ?side2 A35.out).mono ?_) ag; (case side1 => repeat (first | exact (Kd.R_reads' HO_5.out).2.2 | (with_reducible refine Kd.C_alloc ?_ _) | (with_reducible refine Kd.C_drewN ?_ _) | (with_reducible refine Kd.C_drew ?_))); (case side2 => exact (Kd.R_reads' HO_5.out).2.1); rintro e w45 ⟨v158, rfl, ho0, hb⟩; refine ⟨_, rfl, ?_⟩; have HO159 := Aside0.mk (Kd.R_lower (Kd.R_new' ho0 (Kd.R_lt (by (with_reducible repeat (first | apply Kd.R_alloc | apply Kd.R_drewN | apply Kd.R_drew)); exact HO_5.out))) (below_size (bf HB))); replace HO_5 := Aside0.mk (Kd.R_elder' (by (with_reducible repeat (first | apply Kd.R_alloc | apply Kd.R_drewN | apply Kd.R_drew)); exact HO_5.out) (Kd.R_base ho0) hb); replace HB := bs HB hb; (try clear hb); (try clear ho0); obtain ⟨Ao46, co46, eo46⟩ := Kd.R_slice HO159.out; subst eo46) | ((with_reducible refine gc 18 rfl ?_); refine gl_ (some 64) rfl rfl Try.func18 ((order_Turned.calls kj24 _ _ _ _ _ ?side1 ?side2 A36.out).mono ?_) ag; (case side1 => exact rc HO159); (case side2 => exact (Kd.R_reads' HO159.out).2.1); rintro e w47 ⟨v161, rfl, ho0, hb⟩; refine ⟨_, rfl, ?_⟩; have HO162 := Aside0.mk (Kd.R_lower (Kd.R_new' (Kd.R_new' ho0 (Kd.R_lt (by (with_reducible repeat (first | apply Kd.R_alloc | apply Kd.R_drewN | apply Kd.R_drew)); exact HO_5.out))) (rl HO159)) (below_size (bf HB))); replace HO_5 := Aside0.mk (Kd.R_elder' (by (with_reducible repeat (first | apply Kd.R_alloc | apply Kd.R_drewN | apply Kd.R_drew)); exact HO_5.out) (Kd.R_base ho0) hb); replace HO159 := re_ HO159 (Kd.R_base ho0) hb; replace HB := bs HB hb; (try clear hb); (try clear ho0); obtain ⟨Ao48, co48, eo48⟩ := Kd.R_slice HO162.out; subst eo48) | ((with_reducible refine gc 11 rfl ?_); refine gm_ (some 66) rfl rfl Try.func11 (carrefourref13_Same.calls kj24 _ _ _ _ _ _ _ _ ?side1 ?side2 ?side3 ?side4 A37.out) ag ?_; (case side1 => exact rc HO162); (case side2 => exact (Kd.R_reads' HO162.out).2.1); (case side3 => repeat (first | exact (Kd.R_reads' HO_5.out).2.2 | (with_reducible refine Kd.C_alloc ?_ _) | (with_reducible refine Kd.C_drewN ?_ _) | (with_reducible refine Kd.C_drew ?_))); (case side4 => exact (Kd.R_reads' HO_5.out).2.1); rintro w' ⟨nd, rfl⟩))
                      go_ret
                      exact ⟨ae, bf HB⟩

/-- THE ONE PURE STATEMENT of carrefourlaw13_OrderBack: yours. -/
def carrefourlaw13_OrderBack.Pure : Prop := ∀ (a0 : Int) (a1 : Int), (Lit.int .i64 a0).wf = true → (Lit.int .i64 a1).wf = true → ∃ k, carrefourlaw13_OrderBack.f k a0 a1 = some true
theorem carrefourlaw13_OrderBack.walk (P : carrefourlaw13_OrderBack.Pure) (a0 : Int) (a1 : Int) (w : World) (w0 : (Lit.int .i64 a0).wf = true) (w1 : (Lit.int .i64 a1).wf = true) :
    Calls Try.prog 6 #[.int .i64 a0, .int .i64 a1] w fun e w' => e = .returned (.bool true) ∧ Below w.heap.size w w' := by
  obtain ⟨k, h⟩ := P a0 a1 w0 w1
  refine (carrefourlaw13_OrderBack.calls k a0 a1 true w h).mono ?_
  rintro e w' ⟨rfl, hd⟩
  exact ⟨rfl, hd⟩

end Go.Proofs.Ytnhnmbfhepeadaa.X
