/- Walks: each '.calls' says that the Go function comes to what its Lean function tells. Conditions: as each theorem's head says. -/
import Derived.Test.YtnhnmbfhepeadaaXD
import Derived.Test.YtnhnmbfhepeadaaX0
import Derived.Test.YtnhnmbfhepeadaaX1
import Derived.Test.YtnhnmbfhepeadaaX2
import Derived.Test.YtnhnmbfhepeadaaX3
namespace Go.Proofs.Ytnhnmbfhepeadaa.X
open Go.RowKit Go.Proofs.YtnhnmbfhepeadaaW.PrintWords Go.Proofs.YtnhnmbfhepeadaaW.PrintLast Go.Proofs.YtnhnmbfhepeadaaW.PrintMore
attribute [local go_sem] max2_int min2_int max_two min_two max_three min_three max_four min_four   -- for this text's walks alone
set_option linter.unusedVariables false
set_option maxHeartbeats 8000000
set_option maxRecDepth 100000
set_option linter.unusedSimpArgs false

/-! ### carrefourlaw13_OrderRows: function 7 -/
theorem carrefourlaw13_OrderRows.calls (k : Nat) (a0 : Bool) (a1 : Int) (r : Bool) (w : World) (h : carrefourlaw13_OrderRows.f k a0 a1 = some r) :
    Calls Try.prog 7 #[.bool a0, .int .i64 a1] w fun e w' => e = .returned (.bool r) ∧ Below w.heap.size w w' := by
  have HB := Aside0.mk (Below.refl w.heap.size w)
  have H : (if a1 > 5 then (carrefourlaw13_OrderRows.j0 k a0 a1 (decide (a1 ≤ 8))) else (carrefourlaw13_OrderRows.j0 k a0 a1 false)) = some r := h
  clear h
  have HC3 := Aside0.mk H
  clear H
  go_enter Try.func7, Try.ntmps7
  go_upto_region 1 with (fail)
  repeat (go_quiet (fail); go_upto_region 1 with (fail))
  go_cut [13] (fun v13 wc => ∃ (kq : Nat) (x13_2 : Bool), v13 = .bool x13_2 ∧ Aside0 (carrefourlaw13_OrderRows.j0 kq a0 a1 x13_2 = some r) ∧ Aside0 (kq ≤ k) ∧ Aside0 (Below w.heap.size w wc))
  case first =>
    have H := HC3.out
    clear HC3
    by_cases c4 : a1 > 5
    · rw [if_pos c4] at H
      have c4b0 : decide (5 < a1) = true := decide_eq_true c4
      clear c4
      (first | rw [c4b0] | (simp only [i64_w, i32_w]; rw [c4b0]) | skip)
      have H' := Aside0.mk H
      clear H
      go_wp2
      repeat (go_quiet (fail); try go_wp2)
      go_meet
      case rel => exact ⟨_, (decide (a1 ≤ 8)), (aq), H', ⟨by first | omega | exact Nat.le_refl _⟩, ⟨bf HB⟩⟩
    · rw [if_neg c4] at H
      have c4b0 : decide (5 < a1) = false := decide_eq_false c4
      clear c4
      (first | rw [c4b0] | (simp only [i64_w, i32_w]; rw [c4b0]) | skip)
      have H' := Aside0.mk H
      clear H
      go_wp2
      repeat (go_quiet (fail); try go_wp2)
      go_meet
      case rel => exact ⟨_, (false), (aq), H', ⟨by first | omega | exact Nat.le_refl _⟩, ⟨bf HB⟩⟩
  case rest =>
    clear HC3
    try clear p2
    try clear c4
    try clear c4b0
    obtain ⟨kq, x13_2, rfl, HA, HJ2, HB⟩ := hcut
    cases kq with
    | zero => exact absurd HA.out (by simp [carrefourlaw13_OrderRows.j0])
    | succ kj2 =>
      have H := HA.out
      clear HA
      simp only [carrefourlaw13_OrderRows.j0] at H
      by_cases c5 : x13_2 = true
      · subst c5
        have H1 : (some true) = some r := by rw [if_pos rfl] at H; exact H
        clear H
        have H := H1
        clear H1
        obtain rfl := Option.some.inj H
        go_wp2
        repeat (go_quiet (fail); try go_wp2)
        go_ret
        exact ⟨ae, bf HB⟩
      · replace c5 := Bool.eq_false_iff.mpr c5
        subst c5
        have H1 : ((order_Rows.f kj2 a0 a1).bind fun t164 => ((carrefourref13_Rows.f kj2 a0 a1).bind fun t167 => (if (t164.length : Int) = (t167.length : Int) then (carrefourlaw13_OrderRows.l0 kj2 t164 t167 0) else (some false)))) = some r := by rw [if_neg (show ¬ (false = true) by decide)] at H; exact H
        clear H
        have H := H1
        clear H1
        replace H := bi_ H; obtain ⟨t164, A6, H⟩ := H
        (try dsimp only at H)
        replace H := bi_ H; obtain ⟨t167, A7, H⟩ := H
        (try dsimp only at H)
        by_cases c8 : (t164.length : Int) = (t167.length : Int)
        · rw [if_pos c8] at H
          have c8b0 : ((t164.length : Int) == (t167.length : Int)) = true := beq_iff_eq.mpr c8
          have c8b1 : ((t164.length : Int) != (t167.length : Int)) = false := bne_eq_false_iff_eq.mpr c8
          have c8b2 : (t164.length == t167.length) = true := by first | simpa using c8 | (simp at c8 ⊢; omega)
          clear c8
          have H' := Aside0.mk H
          clear H
          go_wp2_with (first | (go_at_call 21; (with_reducible refine (order_Rows.calls kj2 _ _ _ _ A6.out).mono ?_); rintro e w9 ⟨v165, rfl, ho0, hb⟩; have HO166 := Aside0.mk (Kd.N_lower (Kd.N_mono (ok' := fun k_ => True) ho0 (fun k_ hk_ => trivial)) (below_size (bf HB))); replace HB := bs HB hb; (try clear hb); (try clear ho0)) | (go_at_call 22; (with_reducible refine (carrefourref13_Rows.calls kj2 _ _ _ _ A7.out).mono ?_); rintro e w10 ⟨v168, rfl, ho0, hb⟩; have HO169 := Aside0.mk (Kd.N_lower (Kd.N_mono (ok' := fun k_ => some k_ ≠ (v165 : Value).ownBlock) ho0 (fun k_ hk_ => (Kd.fresh' (Kd.N_lt (by (with_reducible repeat (first | apply Kd.N_alloc | apply Kd.N_drewN | apply Kd.N_drew)); exact HO166.out)) k_ hk_))) (below_size (bf HB))); replace HO166 := Aside0.mk (Kd.N_elder' (by (with_reducible repeat (first | apply Kd.N_alloc | apply Kd.N_drewN | apply Kd.N_drew)); exact HO166.out) (Kd.N_base ho0) hb); replace HB := bs HB hb; (try clear hb); (try clear ho0); obtain ⟨Ao11, co11, eo11⟩ := Kd.N_slice HO166.out; subst eo11; obtain ⟨Ao12, co12, eo12⟩ := Kd.N_slice HO169.out; subst eo12))
          repeat (go_quiet (first | (go_at_call 21; (with_reducible refine (order_Rows.calls kj2 _ _ _ _ A6.out).mono ?_); rintro e w9 ⟨v165, rfl, ho0, hb⟩; have HO166 := Aside0.mk (Kd.N_lower (Kd.N_mono (ok' := fun k_ => True) ho0 (fun k_ hk_ => trivial)) (below_size (bf HB))); replace HB := bs HB hb; (try clear hb); (try clear ho0)) | (go_at_call 22; (with_reducible refine (carrefourref13_Rows.calls kj2 _ _ _ _ A7.out).mono ?_); rintro e w10 ⟨v168, rfl, ho0, hb⟩; have HO169 := Aside0.mk (Kd.N_lower (Kd.N_mono (ok' := fun k_ => some k_ ≠ (v165 : Value).ownBlock) ho0 (fun k_ hk_ => (Kd.fresh' (Kd.N_lt (by (with_reducible repeat (first | apply Kd.N_alloc | apply Kd.N_drewN | apply Kd.N_drew)); exact HO166.out)) k_ hk_))) (below_size (bf HB))); replace HO166 := Aside0.mk (Kd.N_elder' (by (with_reducible repeat (first | apply Kd.N_alloc | apply Kd.N_drewN | apply Kd.N_drew)); exact HO166.out) (Kd.N_base ho0) hb); replace HB := bs HB hb; (try clear hb); (try clear ho0); obtain ⟨Ao11, co11, eo11⟩ := Kd.N_slice HO166.out; subst eo11; obtain ⟨Ao12, co12, eo12⟩ := Kd.N_slice HO169.out; subst eo12)); try go_wp2_with (first | (go_at_call 21; (with_reducible refine (order_Rows.calls kj2 _ _ _ _ A6.out).mono ?_); rintro e w9 ⟨v165, rfl, ho0, hb⟩; have HO166 := Aside0.mk (Kd.N_lower (Kd.N_mono (ok' := fun k_ => True) ho0 (fun k_ hk_ => trivial)) (below_size (bf HB))); replace HB := bs HB hb; (try clear hb); (try clear ho0)) | (go_at_call 22; (with_reducible refine (carrefourref13_Rows.calls kj2 _ _ _ _ A7.out).mono ?_); rintro e w10 ⟨v168, rfl, ho0, hb⟩; have HO169 := Aside0.mk (Kd.N_lower (Kd.N_mono (ok' := fun k_ => some k_ ≠ (v165 : Value).ownBlock) ho0 (fun k_ hk_ => (Kd.fresh' (Kd.N_lt (by (with_reducible repeat (first | apply Kd.N_alloc | apply Kd.N_drewN | apply Kd.N_drew)); exact HO166.out)) k_ hk_))) (below_size (bf HB))); replace HO166 := Aside0.mk (Kd.N_elder' (by (with_reducible repeat (first | apply Kd.N_alloc | apply Kd.N_drewN | apply Kd.N_drew)); exact HO166.out) (Kd.N_base ho0) hb); replace HB := bs HB hb; (try clear hb); (try clear ho0); obtain ⟨Ao11, co11, eo11⟩ := Kd.N_slice HO166.out; subst eo11; obtain ⟨Ao12, co12, eo12⟩ := Kd.N_slice HO169.out; subst eo12)))
          go_loopg [7] kj2 (fun kq v7 w' => ∃ (x7_2 : Int), v7 = .int .i64 x7_2 ∧ Aside0 (carrefourlaw13_OrderRows.l0 kq t164 t167 x7_2 = some r) ∧ Aside0 (kq ≤ kj2) ∧ Aside0 (Kd.N (Kd.slice 3 (Kd.int .i64)) 25 w' w.heap.size (fun k_ => some k_ ≠ ((.slice Ao12 t167.length co12) : Value).ownBlock) (.slice Ao11 t164.length co11) t164) ∧ Aside0 (Kd.N (Kd.slice 3 (Kd.int .i64)) 25 w' w.heap.size (fun k_ => some k_ ≠ ((.slice Ao11 t164.length co11) : Value).ownBlock) (.slice Ao12 t167.length co12) t167) ∧ Aside0 (Below w.heap.size w w'))
          case atStart => exact ⟨(0), (aq), H', ⟨Nat.le_refl _⟩, ⟨by (with_reducible repeat (first | apply Kd.N_alloc | apply Kd.N_drewN | apply Kd.N_drew)); exact Kd.N_mono HO166.out (fun _ hk => hk.2)⟩, ⟨by (with_reducible repeat (first | apply Kd.N_alloc | apply Kd.N_drewN | apply Kd.N_drew)); exact HO169.out⟩, ⟨bf HB⟩⟩
          case round =>
            clear H'
            try clear p2
            try clear c4
            try clear c4b0
            try clear c5
            try clear c7
            try clear c8
            try clear c8b0
            try clear c8b1
            try clear c8b2
            try clear p2
            obtain ⟨x7_2, rfl, HA, HK2, HO_5, HO_6, HB⟩ := hrel
            cases gk with
            | zero => exact absurd HA.out (by simp [carrefourlaw13_OrderRows.l0])
            | succ k2 =>
              have H := HA.out
              clear HA
              simp only [carrefourlaw13_OrderRows.l0] at H
              by_cases c13 : x7_2 < (t164.length : Int)
              · rw [if_pos c13] at H
                have c13b0 : decide (x7_2 < (t164.length : Int)) = true := decide_eq_true c13
                clear c13
                by_cases c14 : 0 ≤ x7_2
                · rw [if_pos c14] at H
                  have c14b0 : decide (0 ≤ x7_2) = true := decide_eq_true c14
                  clear c14
                  by_cases c15 : x7_2 < (t167.length : Int)
                  · rw [if_pos c15] at H
                    have c15b0 : decide (x7_2 < (t167.length : Int)) = true := decide_eq_true c15
                    clear c15
                    replace H := bi_ H; obtain ⟨t172, A16, H⟩ := H
                    (try dsimp only at H)
                    by_cases c17 : t172 = true
                    · subst c17
                      have H1 : (carrefourlaw13_OrderRows.l0 k2 t164 t167 (wrap64 (x7_2 + 1))) = some r := by rw [if_pos rfl] at H; exact H
                      clear H
                      have H := H1
                      clear H1
                      have H' := Aside0.mk H
                      clear H
                      have p170 : 0 ≤ (x7_2 : Int) := of_decide_eq_true (by first | (with_reducible assumption) | assumption)
                      have q170 : x7_2 < (t164.length : Int) := of_decide_eq_true (by first | (with_reducible assumption) | assumption)
                      obtain ⟨ad170, A170_0, c170_0, e170, hx170_0, hl170_0, hi170_0⟩ := at_L1 (Kd.N_reads' HO_5.out).2.2 x7_2 p170 q170
                      cases e170
                      obtain ⟨ce170, hce170, hMe170, hcc170⟩ := Kd.N_get HO_5.out [] x7_2 p170 (by first | exact q170 | exact of_decide_eq_true (by first | (with_reducible assumption) | assumption) | (have e_ := (Kd.N_reads' HO_5.out).1; omega))
                      obtain ⟨ua170_0, uc170_0, rfl, ul170_0, ge170_0⟩ := Kd.FK_slice_open hMe170
                      have hv170_0 := hcc170 0 _ rfl
                      rw [Nat.add_zero, show ((Kd.slice 3 (Kd.int .i64))).sz = 1 from rfl, Nat.mul_one] at hv170_0
                      replace hv170_0 := Option.some.inj (hv170_0.symm.trans hx170_0)
                      injection hv170_0 with hva_ hvn_ hvc_
                      rw [hva_] at ge170_0
                      rw [hvc_] at ul170_0
                      have HL170_0 := Aside0.mk (show Kd.V (Kd.int .i64) 3 _ w.heap.size _ _ (rd_L1 t164 x7_2) from Kd.V_mk ul170_0 ge170_0)
                      clear hva_ hvn_ hvc_ ge170_0 ul170_0
                      clear hcc170 hce170
                      have HR170_0 := Aside0.mk hi170_0
                      have HC170_0 := Aside0.mk hl170_0
                      clear hi170_0 hl170_0
                      replace p170 := eq_true p170
                      replace q170 := eq_true q170
                      have p171 : 0 ≤ (x7_2 : Int) := of_decide_eq_true (by first | (with_reducible assumption) | assumption)
                      have q171 : x7_2 < (t167.length : Int) := of_decide_eq_true (by first | (with_reducible assumption) | assumption)
                      obtain ⟨ad171, A171_0, c171_0, e171, hx171_0, hl171_0, hi171_0⟩ := at_L1 (Kd.N_reads' HO_6.out).2.2 x7_2 p171 q171
                      cases e171
                      obtain ⟨ce171, hce171, hMe171, hcc171⟩ := Kd.N_get HO_6.out [] x7_2 p171 (by first | exact q171 | exact of_decide_eq_true (by first | (with_reducible assumption) | assumption) | (have e_ := (Kd.N_reads' HO_6.out).1; omega))
                      obtain ⟨ua171_0, uc171_0, rfl, ul171_0, ge171_0⟩ := Kd.FK_slice_open hMe171
                      have hv171_0 := hcc171 0 _ rfl
                      rw [Nat.add_zero, show ((Kd.slice 3 (Kd.int .i64))).sz = 1 from rfl, Nat.mul_one] at hv171_0
                      replace hv171_0 := Option.some.inj (hv171_0.symm.trans hx171_0)
                      injection hv171_0 with hva_ hvn_ hvc_
                      rw [hva_] at ge171_0
                      rw [hvc_] at ul171_0
                      have HL171_0 := Aside0.mk (show Kd.V (Kd.int .i64) 3 _ w.heap.size _ _ (rd_L1 t167 x7_2) from Kd.V_mk ul171_0 ge171_0)
                      clear hva_ hvn_ hvc_ ge171_0 ul171_0
                      clear hcc171 hce171
                      have HR171_0 := Aside0.mk hi171_0
                      have HC171_0 := Aside0.mk hl171_0
                      clear hi171_0 hl171_0
                      replace p171 := eq_true p171
                      replace q171 := eq_true q171
                      go_wp2_with (first | (go_at_call 11; (with_reducible refine (carrefourref13_Same.calls _ _ _ (rd_L1 t164 x7_2) _ _ (rd_L1 t167 x7_2) _ _ ?side1 ?side2 ?side3 ?side4 A16.out).mono ?_); (case side1 => repeat (first | exact (by repeat (first | (with_reducible exact HR170_0.out) | (with_reducible refine Kd.C_alloc ?_ _) | (with_reducible refine Kd.C_drewN ?_ _) | (with_reducible refine Kd.C_drew ?_) | exact HR170_0.out)) | (with_reducible refine Kd.C_alloc ?_ _) | (with_reducible refine Kd.C_drewN ?_ _) | (with_reducible refine Kd.C_drew ?_))); (case side2 => exact HC170_0.out); (case side3 => repeat (first | exact (by repeat (first | (with_reducible exact HR171_0.out) | (with_reducible refine Kd.C_alloc ?_ _) | (with_reducible refine Kd.C_drewN ?_ _) | (with_reducible refine Kd.C_drew ?_) | exact HR171_0.out)) | (with_reducible refine Kd.C_alloc ?_ _) | (with_reducible refine Kd.C_drewN ?_ _) | (with_reducible refine Kd.C_drew ?_))); (case side4 => exact HC171_0.out); rintro e w' ⟨rfl, ⟨nd, rfl⟩⟩; (try first | exact ⟨rfl, _, World.drewN_drewN _ _ _⟩ | exact ⟨rfl, _, Eq.trans (World.drewN_drewN _ _ _) (congrArg (World.drewN _) (Nat.add_assoc _ _ _))⟩)))
                      repeat (go_quiet (first | (go_at_call 11; (with_reducible refine (carrefourref13_Same.calls _ _ _ (rd_L1 t164 x7_2) _ _ (rd_L1 t167 x7_2) _ _ ?side1 ?side2 ?side3 ?side4 A16.out).mono ?_); (case side1 => repeat (first | exact (by repeat (first | (with_reducible exact HR170_0.out) | (with_reducible refine Kd.C_alloc ?_ _) | (with_reducible refine Kd.C_drewN ?_ _) | (with_reducible refine Kd.C_drew ?_) | exact HR170_0.out)) | (with_reducible refine Kd.C_alloc ?_ _) | (with_reducible refine Kd.C_drewN ?_ _) | (with_reducible refine Kd.C_drew ?_))); (case side2 => exact HC170_0.out); (case side3 => repeat (first | exact (by repeat (first | (with_reducible exact HR171_0.out) | (with_reducible refine Kd.C_alloc ?_ _) | (with_reducible refine Kd.C_drewN ?_ _) | (with_reducible refine Kd.C_drew ?_) | exact HR171_0.out)) | (with_reducible refine Kd.C_alloc ?_ _) | (with_reducible refine Kd.C_drewN ?_ _) | (with_reducible refine Kd.C_drew ?_))); (case side4 => exact HC171_0.out); rintro e w' ⟨rfl, ⟨nd, rfl⟩⟩; (try first | exact ⟨rfl, _, World.drewN_drewN _ _ _⟩ | exact ⟨rfl, _, Eq.trans (World.drewN_drewN _ _ _) (congrArg (World.drewN _) (Nat.add_assoc _ _ _))⟩))); try go_wp2_with (first | (go_at_call 11; (with_reducible refine (carrefourref13_Same.calls _ _ _ (rd_L1 t164 x7_2) _ _ (rd_L1 t167 x7_2) _ _ ?side1 ?side2 ?side3 ?side4 A16.out).mono ?_); (case side1 => repeat (first | exact (by repeat (first | (with_reducible exact HR170_0.out) | (with_reducible refine Kd.C_alloc ?_ _) | (with_reducible refine Kd.C_drewN ?_ _) | (with_reducible refine Kd.C_drew ?_) | exact HR170_0.out)) | (with_reducible refine Kd.C_alloc ?_ _) | (with_reducible refine Kd.C_drewN ?_ _) | (with_reducible refine Kd.C_drew ?_))); (case side2 => exact HC170_0.out); (case side3 => repeat (first | exact (by repeat (first | (with_reducible exact HR171_0.out) | (with_reducible refine Kd.C_alloc ?_ _) | (with_reducible refine Kd.C_drewN ?_ _) | (with_reducible refine Kd.C_drew ?_) | exact HR171_0.out)) | (with_reducible refine Kd.C_alloc ?_ _) | (with_reducible refine Kd.C_drewN ?_ _) | (with_reducible refine Kd.C_drew ?_))); (case side4 => exact HC171_0.out); rintro e w' ⟨rfl, ⟨nd, rfl⟩⟩; (try first | exact ⟨rfl, _, World.drewN_drewN _ _ _⟩ | exact ⟨rfl, _, Eq.trans (World.drewN_drewN _ _ _) (congrArg (World.drewN _) (Nat.add_assoc _ _ _))⟩))))
                      go_roundg k2
                      case measure => have := HJ2.out; have := HK2.out; omega
                      case rel => exact ⟨(wrap64 (x7_2 + 1)), (aq), H', ⟨by have := HJ2.out; have := HK2.out; omega⟩, ⟨by (with_reducible repeat (first | apply Kd.N_alloc | apply Kd.N_drewN | apply Kd.N_drew)); exact HO_5.out⟩, ⟨by (with_reducible repeat (first | apply Kd.N_alloc | apply Kd.N_drewN | apply Kd.N_drew)); exact HO_6.out⟩, ⟨bf HB⟩⟩
                    · replace c17 := Bool.eq_false_iff.mpr c17
                      subst c17
                      have H1 : (some false) = some r := by rw [if_neg (show ¬ (false = true) by decide)] at H; exact H
                      clear H
                      have H := H1
                      clear H1
                      obtain rfl := Option.some.inj H
                      have p170 : 0 ≤ (x7_2 : Int) := of_decide_eq_true (by first | (with_reducible assumption) | assumption)
                      have q170 : x7_2 < (t164.length : Int) := of_decide_eq_true (by first | (with_reducible assumption) | assumption)
                      obtain ⟨ad170, A170_0, c170_0, e170, hx170_0, hl170_0, hi170_0⟩ := at_L1 (Kd.N_reads' HO_5.out).2.2 x7_2 p170 q170
                      cases e170
                      obtain ⟨ce170, hce170, hMe170, hcc170⟩ := Kd.N_get HO_5.out [] x7_2 p170 (by first | exact q170 | exact of_decide_eq_true (by first | (with_reducible assumption) | assumption) | (have e_ := (Kd.N_reads' HO_5.out).1; omega))
                      obtain ⟨ua170_0, uc170_0, rfl, ul170_0, ge170_0⟩ := Kd.FK_slice_open hMe170
                      have hv170_0 := hcc170 0 _ rfl
                      rw [Nat.add_zero, show ((Kd.slice 3 (Kd.int .i64))).sz = 1 from rfl, Nat.mul_one] at hv170_0
                      replace hv170_0 := Option.some.inj (hv170_0.symm.trans hx170_0)
                      injection hv170_0 with hva_ hvn_ hvc_
                      rw [hva_] at ge170_0
                      rw [hvc_] at ul170_0
                      have HL170_0 := Aside0.mk (show Kd.V (Kd.int .i64) 3 _ w.heap.size _ _ (rd_L1 t164 x7_2) from Kd.V_mk ul170_0 ge170_0)
                      clear hva_ hvn_ hvc_ ge170_0 ul170_0
                      clear hcc170 hce170
                      have HR170_0 := Aside0.mk hi170_0
                      have HC170_0 := Aside0.mk hl170_0
                      clear hi170_0 hl170_0
                      replace p170 := eq_true p170
                      replace q170 := eq_true q170
                      have p171 : 0 ≤ (x7_2 : Int) := of_decide_eq_true (by first | (with_reducible assumption) | assumption)
                      have q171 : x7_2 < (t167.length : Int) := of_decide_eq_true (by first | (with_reducible assumption) | assumption)
                      obtain ⟨ad171, A171_0, c171_0, e171, hx171_0, hl171_0, hi171_0⟩ := at_L1 (Kd.N_reads' HO_6.out).2.2 x7_2 p171 q171
                      cases e171
                      obtain ⟨ce171, hce171, hMe171, hcc171⟩ := Kd.N_get HO_6.out [] x7_2 p171 (by first | exact q171 | exact of_decide_eq_true (by first | (with_reducible assumption) | assumption) | (have e_ := (Kd.N_reads' HO_6.out).1; omega))
                      obtain ⟨ua171_0, uc171_0, rfl, ul171_0, ge171_0⟩ := Kd.FK_slice_open hMe171
                      have hv171_0 := hcc171 0 _ rfl
                      rw [Nat.add_zero, show ((Kd.slice 3 (Kd.int .i64))).sz = 1 from rfl, Nat.mul_one] at hv171_0
                      replace hv171_0 := Option.some.inj (hv171_0.symm.trans hx171_0)
                      injection hv171_0 with hva_ hvn_ hvc_
                      rw [hva_] at ge171_0
                      rw [hvc_] at ul171_0
                      have HL171_0 := Aside0.mk (show Kd.V (Kd.int .i64) 3 _ w.heap.size _ _ (rd_L1 t167 x7_2) from Kd.V_mk ul171_0 ge171_0)
                      clear hva_ hvn_ hvc_ ge171_0 ul171_0
                      clear hcc171 hce171
                      have HR171_0 := Aside0.mk hi171_0
                      have HC171_0 := Aside0.mk hl171_0
                      clear hi171_0 hl171_0
                      replace p171 := eq_true p171
                      replace q171 := eq_true q171
                      go_wp2_with (first | (go_at_call 11; (with_reducible refine (carrefourref13_Same.calls _ _ _ (rd_L1 t164 x7_2) _ _ (rd_L1 t167 x7_2) _ _ ?side1 ?side2 ?side3 ?side4 A16.out).mono ?_); (case side1 => repeat (first | exact (by repeat (first | (with_reducible exact HR170_0.out) | (with_reducible refine Kd.C_alloc ?_ _) | (with_reducible refine Kd.C_drewN ?_ _) | (with_reducible refine Kd.C_drew ?_) | exact HR170_0.out)) | (with_reducible refine Kd.C_alloc ?_ _) | (with_reducible refine Kd.C_drewN ?_ _) | (with_reducible refine Kd.C_drew ?_))); (case side2 => exact HC170_0.out); (case side3 => repeat (first | exact (by repeat (first | (with_reducible exact HR171_0.out) | (with_reducible refine Kd.C_alloc ?_ _) | (with_reducible refine Kd.C_drewN ?_ _) | (with_reducible refine Kd.C_drew ?_) | exact HR171_0.out)) | (with_reducible refine Kd.C_alloc ?_ _) | (with_reducible refine Kd.C_drewN ?_ _) | (with_reducible refine Kd.C_drew ?_))); (case side4 => exact HC171_0.out); rintro e w' ⟨rfl, ⟨nd, rfl⟩⟩; (try first | exact ⟨rfl, _, World.drewN_drewN _ _ _⟩ | exact ⟨rfl, _, Eq.trans (World.drewN_drewN _ _ _) (congrArg (World.drewN _) (Nat.add_assoc _ _ _))⟩)))
                      repeat (go_quiet (first | (go_at_call 11; (with_reducible refine (carrefourref13_Same.calls _ _ _ (rd_L1 t164 x7_2) _ _ (rd_L1 t167 x7_2) _ _ ?side1 ?side2 ?side3 ?side4 A16.out).mono ?_); (case side1 => repeat (first | exact (by repeat (first | (with_reducible exact HR170_0.out) | (with_reducible refine Kd.C_alloc ?_ _) | (with_reducible refine Kd.C_drewN ?_ _) | (with_reducible refine Kd.C_drew ?_) | exact HR170_0.out)) | (with_reducible refine Kd.C_alloc ?_ _) | (with_reducible refine Kd.C_drewN ?_ _) | (with_reducible refine Kd.C_drew ?_))); (case side2 => exact HC170_0.out); (case side3 => repeat (first | exact (by repeat (first | (with_reducible exact HR171_0.out) | (with_reducible refine Kd.C_alloc ?_ _) | (with_reducible refine Kd.C_drewN ?_ _) | (with_reducible refine Kd.C_drew ?_) | exact HR171_0.out)) | (with_reducible refine Kd.C_alloc ?_ _) | (with_reducible refine Kd.C_drewN ?_ _) | (with_reducible refine Kd.C_drew ?_))); (case side4 => exact HC171_0.out); rintro e w' ⟨rfl, ⟨nd, rfl⟩⟩; (try first | exact ⟨rfl, _, World.drewN_drewN _ _ _⟩ | exact ⟨rfl, _, Eq.trans (World.drewN_drewN _ _ _) (congrArg (World.drewN _) (Nat.add_assoc _ _ _))⟩))); try go_wp2_with (first | (go_at_call 11; (with_reducible refine (carrefourref13_Same.calls _ _ _ (rd_L1 t164 x7_2) _ _ (rd_L1 t167 x7_2) _ _ ?side1 ?side2 ?side3 ?side4 A16.out).mono ?_); (case side1 => repeat (first | exact (by repeat (first | (with_reducible exact HR170_0.out) | (with_reducible refine Kd.C_alloc ?_ _) | (with_reducible refine Kd.C_drewN ?_ _) | (with_reducible refine Kd.C_drew ?_) | exact HR170_0.out)) | (with_reducible refine Kd.C_alloc ?_ _) | (with_reducible refine Kd.C_drewN ?_ _) | (with_reducible refine Kd.C_drew ?_))); (case side2 => exact HC170_0.out); (case side3 => repeat (first | exact (by repeat (first | (with_reducible exact HR171_0.out) | (with_reducible refine Kd.C_alloc ?_ _) | (with_reducible refine Kd.C_drewN ?_ _) | (with_reducible refine Kd.C_drew ?_) | exact HR171_0.out)) | (with_reducible refine Kd.C_alloc ?_ _) | (with_reducible refine Kd.C_drewN ?_ _) | (with_reducible refine Kd.C_drew ?_))); (case side4 => exact HC171_0.out); rintro e w' ⟨rfl, ⟨nd, rfl⟩⟩; (try first | exact ⟨rfl, _, World.drewN_drewN _ _ _⟩ | exact ⟨rfl, _, Eq.trans (World.drewN_drewN _ _ _) (congrArg (World.drewN _) (Nat.add_assoc _ _ _))⟩))))
                      go_ret
                      exact ⟨ae, bf HB⟩
                  · rw [if_neg c15] at H
                    exact absurd H (by simp)
                · rw [if_neg c14] at H
                  exact absurd H (by simp)
              · rw [if_neg c13] at H
                have c13b0 : decide (x7_2 < (t164.length : Int)) = false := decide_eq_false c13
                clear c13
                replace H := bi_ H; obtain ⟨t173, A18, H⟩ := H
                (try dsimp only at H)
                obtain rfl := Option.some.inj H
                go_wp2_with (first | (go_at_call 10; (with_reducible refine (carrefourlaw13_awake.calls _ _ _ A18.out).mono ?_); rintro e w19 ⟨rfl, hb⟩; replace HO_5 := Aside0.mk (Kd.N_below (by (with_reducible repeat (first | apply Kd.N_alloc | apply Kd.N_drewN | apply Kd.N_drew)); exact HO_5.out) hb); replace HO_6 := Aside0.mk (Kd.N_below (by (with_reducible repeat (first | apply Kd.N_alloc | apply Kd.N_drewN | apply Kd.N_drew)); exact HO_6.out) hb); replace HB := bs HB hb; (try clear hb)))
                repeat (go_quiet (first | (go_at_call 10; (with_reducible refine (carrefourlaw13_awake.calls _ _ _ A18.out).mono ?_); rintro e w19 ⟨rfl, hb⟩; replace HO_5 := Aside0.mk (Kd.N_below (by (with_reducible repeat (first | apply Kd.N_alloc | apply Kd.N_drewN | apply Kd.N_drew)); exact HO_5.out) hb); replace HO_6 := Aside0.mk (Kd.N_below (by (with_reducible repeat (first | apply Kd.N_alloc | apply Kd.N_drewN | apply Kd.N_drew)); exact HO_6.out) hb); replace HB := bs HB hb; (try clear hb))); try go_wp2_with (first | (go_at_call 10; (with_reducible refine (carrefourlaw13_awake.calls _ _ _ A18.out).mono ?_); rintro e w19 ⟨rfl, hb⟩; replace HO_5 := Aside0.mk (Kd.N_below (by (with_reducible repeat (first | apply Kd.N_alloc | apply Kd.N_drewN | apply Kd.N_drew)); exact HO_5.out) hb); replace HO_6 := Aside0.mk (Kd.N_below (by (with_reducible repeat (first | apply Kd.N_alloc | apply Kd.N_drewN | apply Kd.N_drew)); exact HO_6.out) hb); replace HB := bs HB hb; (try clear hb))))
                go_ret
                exact ⟨ae, bf HB⟩
        · rw [if_neg c8] at H
          have c8b0 : ((t164.length : Int) == (t167.length : Int)) = false := beq_eq_false_iff_ne.mpr c8
          have c8b1 : ((t164.length : Int) != (t167.length : Int)) = true := bne_iff_ne.mpr c8
          have c8b2 : (t164.length == t167.length) = false := by first | simpa using c8 | (simp at c8 ⊢; omega)
          obtain rfl := Option.some.inj H
          go_wp2_with (first | (go_at_call 21; (with_reducible refine (order_Rows.calls kj2 _ _ _ _ A6.out).mono ?_); rintro e w20 ⟨v165, rfl, ho0, hb⟩; have HO166 := Aside0.mk (Kd.N_lower (Kd.N_mono (ok' := fun k_ => True) ho0 (fun k_ hk_ => trivial)) (below_size (bf HB))); replace HB := bs HB hb; (try clear hb); (try clear ho0)) | (go_at_call 22; (with_reducible refine (carrefourref13_Rows.calls kj2 _ _ _ _ A7.out).mono ?_); rintro e w21 ⟨v168, rfl, ho0, hb⟩; have HO169 := Aside0.mk (Kd.N_lower (Kd.N_mono (ok' := fun k_ => some k_ ≠ (v165 : Value).ownBlock) ho0 (fun k_ hk_ => (Kd.fresh' (Kd.N_lt (by (with_reducible repeat (first | apply Kd.N_alloc | apply Kd.N_drewN | apply Kd.N_drew)); exact HO166.out)) k_ hk_))) (below_size (bf HB))); replace HO166 := Aside0.mk (Kd.N_elder' (by (with_reducible repeat (first | apply Kd.N_alloc | apply Kd.N_drewN | apply Kd.N_drew)); exact HO166.out) (Kd.N_base ho0) hb); replace HB := bs HB hb; (try clear hb); (try clear ho0); obtain ⟨Ao22, co22, eo22⟩ := Kd.N_slice HO166.out; subst eo22; obtain ⟨Ao23, co23, eo23⟩ := Kd.N_slice HO169.out; subst eo23))
          repeat (go_quiet (first | (go_at_call 21; (with_reducible refine (order_Rows.calls kj2 _ _ _ _ A6.out).mono ?_); rintro e w20 ⟨v165, rfl, ho0, hb⟩; have HO166 := Aside0.mk (Kd.N_lower (Kd.N_mono (ok' := fun k_ => True) ho0 (fun k_ hk_ => trivial)) (below_size (bf HB))); replace HB := bs HB hb; (try clear hb); (try clear ho0)) | (go_at_call 22; (with_reducible refine (carrefourref13_Rows.calls kj2 _ _ _ _ A7.out).mono ?_); rintro e w21 ⟨v168, rfl, ho0, hb⟩; have HO169 := Aside0.mk (Kd.N_lower (Kd.N_mono (ok' := fun k_ => some k_ ≠ (v165 : Value).ownBlock) ho0 (fun k_ hk_ => (Kd.fresh' (Kd.N_lt (by (with_reducible repeat (first | apply Kd.N_alloc | apply Kd.N_drewN | apply Kd.N_drew)); exact HO166.out)) k_ hk_))) (below_size (bf HB))); replace HO166 := Aside0.mk (Kd.N_elder' (by (with_reducible repeat (first | apply Kd.N_alloc | apply Kd.N_drewN | apply Kd.N_drew)); exact HO166.out) (Kd.N_base ho0) hb); replace HB := bs HB hb; (try clear hb); (try clear ho0); obtain ⟨Ao22, co22, eo22⟩ := Kd.N_slice HO166.out; subst eo22; obtain ⟨Ao23, co23, eo23⟩ := Kd.N_slice HO169.out; subst eo23)); try go_wp2_with (first | (go_at_call 21; (with_reducible refine (order_Rows.calls kj2 _ _ _ _ A6.out).mono ?_); rintro e w20 ⟨v165, rfl, ho0, hb⟩; have HO166 := Aside0.mk (Kd.N_lower (Kd.N_mono (ok' := fun k_ => True) ho0 (fun k_ hk_ => trivial)) (below_size (bf HB))); replace HB := bs HB hb; (try clear hb); (try clear ho0)) | (go_at_call 22; (with_reducible refine (carrefourref13_Rows.calls kj2 _ _ _ _ A7.out).mono ?_); rintro e w21 ⟨v168, rfl, ho0, hb⟩; have HO169 := Aside0.mk (Kd.N_lower (Kd.N_mono (ok' := fun k_ => some k_ ≠ (v165 : Value).ownBlock) ho0 (fun k_ hk_ => (Kd.fresh' (Kd.N_lt (by (with_reducible repeat (first | apply Kd.N_alloc | apply Kd.N_drewN | apply Kd.N_drew)); exact HO166.out)) k_ hk_))) (below_size (bf HB))); replace HO166 := Aside0.mk (Kd.N_elder' (by (with_reducible repeat (first | apply Kd.N_alloc | apply Kd.N_drewN | apply Kd.N_drew)); exact HO166.out) (Kd.N_base ho0) hb); replace HB := bs HB hb; (try clear hb); (try clear ho0); obtain ⟨Ao22, co22, eo22⟩ := Kd.N_slice HO166.out; subst eo22; obtain ⟨Ao23, co23, eo23⟩ := Kd.N_slice HO169.out; subst eo23)))
          go_ret
          exact ⟨ae, bf HB⟩

/-- THE ONE PURE STATEMENT of carrefourlaw13_OrderRows: yours. -/
def carrefourlaw13_OrderRows.Pure : Prop := ∀ (a0 : Bool) (a1 : Int), (Lit.int .i64 a1).wf = true → ∃ k, carrefourlaw13_OrderRows.f k a0 a1 = some true
theorem carrefourlaw13_OrderRows.walk (P : carrefourlaw13_OrderRows.Pure) (a0 : Bool) (a1 : Int) (w : World) (w1 : (Lit.int .i64 a1).wf = true) :
    Calls Try.prog 7 #[.bool a0, .int .i64 a1] w fun e w' => e = .returned (.bool true) ∧ Below w.heap.size w w' := by
  obtain ⟨k, h⟩ := P a0 a1 w1
  refine (carrefourlaw13_OrderRows.calls k a0 a1 true w h).mono ?_
  rintro e w' ⟨rfl, hd⟩
  exact ⟨rfl, hd⟩

end Go.Proofs.Ytnhnmbfhepeadaa.X
