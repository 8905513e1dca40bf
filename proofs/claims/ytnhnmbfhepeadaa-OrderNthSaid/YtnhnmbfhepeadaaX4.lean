/- Walks: each '.calls' says that the Go function comes to what its Lean function tells. Conditions: as each theorem's head says. -/
import Derived.Test.YtnhnmbfhepeadaaXD
import Derived.Test.YtnhnmbfhepeadaaX0
import Derived.Test.YtnhnmbfhepeadaaX1
import Derived.Test.YtnhnmbfhepeadaaX3
namespace Go.Proofs.Ytnhnmbfhepeadaa.X
open Go.RowKit Go.Proofs.YtnhnmbfhepeadaaW.PrintWords Go.Proofs.YtnhnmbfhepeadaaW.PrintLast Go.Proofs.YtnhnmbfhepeadaaW.PrintMore
attribute [local go_sem] max2_int min2_int max_two min_two max_three min_three max_four min_four   -- for this text's walks alone
set_option linter.unusedVariables false
set_option maxHeartbeats 8000000
set_option maxRecDepth 100000
set_option linter.unusedSimpArgs false

/-! ### carrefourlaw13_OrderNth: function 3 -/
theorem carrefourlaw13_OrderNth.calls (k : Nat) (a0 : Int) (a1 : Int) (r : Bool) (w : World) (h : carrefourlaw13_OrderNth.f k a0 a1 = some r) :
    Calls Try.prog 3 #[.int .i64 a0, .int .i64 a1] w fun e w' => e = .returned (.bool r) ∧ Below w.heap.size w w' := by
  have HB := Aside0.mk (Below.refl w.heap.size w)
  have H : ((order_Count.f k a0).bind fun t162 => ((carrefourref13_Count.f k a0).bind fun t163 => (if t162 = t163 then (if a0 > 6 then (carrefourlaw13_OrderNth.j0 k a0 a1 (decide (a0 ≤ 8))) else (carrefourlaw13_OrderNth.j0 k a0 a1 false)) else (some false)))) = some r := h
  clear h
  replace H := bi_ H; obtain ⟨t162, A3, H⟩ := H
  (try dsimp only at H)
  replace H := bi_ H; obtain ⟨t163, A4, H⟩ := H
  (try dsimp only at H)
  by_cases c5 : t162 = t163
  · rw [if_pos c5] at H
    have c5b0 : (t162 == t163) = true := beq_iff_eq.mpr c5
    have c5b1 : (t162 != t163) = false := bne_eq_false_iff_eq.mpr c5
    clear c5
    have HC6 := Aside0.mk H
    clear H
    go_enter Try.func3, Try.ntmps3
    go_upto_region 3 with (first | ((with_reducible refine gc 8 rfl ?_); refine gm_ (some 6) rfl rfl Try.func8 (order_Count.calls _ _ _ _ A3.out) ag ?_; rintro w' ⟨nd, rfl⟩) | ((with_reducible refine gc 9 rfl ?_); refine gm_ (some 8) rfl rfl Try.func9 (carrefourref13_Count.calls _ _ _ _ A4.out) ag ?_; rintro w' ⟨nd, rfl⟩))
    (try simp only [Act.put, si, s0, s1])
    go_cut [15] (fun v15 wc => ∃ (kq : Nat) (x15_5 : Bool), v15 = .bool x15_5 ∧ Aside0 (carrefourlaw13_OrderNth.j0 kq a0 a1 x15_5 = some r) ∧ Aside0 (kq ≤ k) ∧ Aside0 (Below w.heap.size w wc))
    case first =>
      have H := HC6.out
      clear HC6
      by_cases c7 : a0 > 6
      · rw [if_pos c7] at H
        have c7b0 : decide (6 < a0) = true := decide_eq_true c7
        clear c7
        (first | rw [c7b0] | (simp only [i64_w, i32_w]; rw [c7b0]) | skip)
        have H' := Aside0.mk H
        clear H
        go_wp2
        go_meet
        case rel => exact ⟨_, (decide (a0 ≤ 8)), (aq), H', ⟨by first | omega | exact Nat.le_refl _⟩, ⟨bf HB⟩⟩
      · rw [if_neg c7] at H
        have c7b0 : decide (6 < a0) = false := decide_eq_false c7
        clear c7
        (first | rw [c7b0] | (simp only [i64_w, i32_w]; rw [c7b0]) | skip)
        have H' := Aside0.mk H
        clear H
        go_wp2
        go_meet
        case rel => exact ⟨_, (false), (aq), H', ⟨by first | omega | exact Nat.le_refl _⟩, ⟨bf HB⟩⟩
    case rest =>
      clear HC6
      try clear p2
      try clear c3
      try clear c5
      try clear c5b0
      try clear c5b1
      try clear c7
      try clear c7b0
      obtain ⟨kq, x15_5, rfl, HA, HJ5, HB⟩ := hcut
      cases kq with
      | zero => exact absurd HA.out (by simp [carrefourlaw13_OrderNth.j0])
      | succ kj5 =>
        have H := HA.out
        clear HA
        simp only [carrefourlaw13_OrderNth.j0] at H
        by_cases c8 : x15_5 = true
        · subst c8
          have H1 : ((carrefourlaw13_awake.f kj5).bind fun t164 => (some t164)) = some r := by rw [if_pos rfl] at H; exact H
          clear H
          have H := H1
          clear H1
          replace H := bi_ H; obtain ⟨t164, A9, H⟩ := H
          (try dsimp only at H)
          obtain rfl := Option.some.inj H
          go_wp2_with (first | ((with_reducible refine gc 10 rfl ?_); refine gm_ (some 16) rfl rfl Try.func10 (carrefourlaw13_awake.calls kj5 _ _ A9.out) ag ?_; intro w10 hb; replace HB := bs HB hb; (try clear hb)))
          go_ret
          exact ⟨ae, bf HB⟩
        · replace c8 := Bool.eq_false_iff.mpr c8
          subst c8
          have H1 : ((order_Nth.f kj5 a0 a1).bind fun t165 => ((carrefourref13_Nth.f kj5 a0 a1).bind fun t168 => ((carrefourref13_Same.f kj5 t165 t168).bind fun t171 => (if t171 = true then ((carrefourlaw13_awake.f kj5).bind fun t172 => (some t172)) else (some false))))) = some r := by rw [if_neg (show ¬ (false = true) by decide)] at H; exact H
          clear H
          have H := H1
          clear H1
          replace H := bi_ H; obtain ⟨t165, A11, H⟩ := H
          (try dsimp only at H)
          replace H := bi_ H; obtain ⟨t168, A12, H⟩ := H
          (try dsimp only at H)
          replace H := bi_ H; obtain ⟨t171, A13, H⟩ := H
          (try dsimp only at H)
          by_cases c14 : t171 = true
          · subst c14
            have H1 : ((carrefourlaw13_awake.f kj5).bind fun t172 => (some t172)) = some r := by rw [if_pos rfl] at H; exact H
            clear H
            have H := H1
            clear H1
            replace H := bi_ H; obtain ⟨t172, A15, H⟩ := H
            (try dsimp only at H)
            obtain rfl := Option.some.inj H
            go_wp2_with (first | ((with_reducible refine gc 12 rfl ?_); refine gl_ (some 19) rfl rfl Try.func12 ((order_Nth.calls kj5 _ _ _ _ A11.out).mono ?_) ag; rintro e w16 ⟨v166, rfl, ho0, hb⟩; refine ⟨_, rfl, ?_⟩; have HO167 := Aside0.mk (Kd.R_lower ho0 (below_size (bf HB))); replace HB := bs HB hb; (try clear hb); (try clear ho0)) | ((with_reducible refine gc 13 rfl ?_); refine gl_ (some 22) rfl rfl Try.func13 ((carrefourref13_Nth.calls kj5 _ _ _ _ A12.out).mono ?_) ag; rintro e w17 ⟨v169, rfl, ho0, hb⟩; refine ⟨_, rfl, ?_⟩; have HO170 := Aside0.mk (Kd.V_lower (Kd.V_mono (ok' := fun k_ => some k_ ≠ (v166 : Value).ownBlock) ho0 (fun k_ hk_ => (Kd.fresh' (rl HO167) k_ hk_))) (below_size (bf HB))); replace HO167 := rb HO167 hb; replace HB := bs HB hb; (try clear hb); (try clear ho0); obtain ⟨Ao18, co18, eo18⟩ := Kd.R_slice HO167.out; subst eo18; obtain ⟨Ao19, co19, eo19⟩ := Kd.V_slice HO170.out; subst eo19) | ((with_reducible refine gc 11 rfl ?_); refine gm_ (some 23) rfl rfl Try.func11 (carrefourref13_Same.calls kj5 _ _ _ _ _ _ _ _ ?side1 ?side2 ?side3 ?side4 A13.out) ag ?_; (case side1 => exact rc HO167); (case side2 => exact (Kd.R_reads' HO167.out).2.1); (case side3 => repeat (first | exact (Kd.V_reads' HO170.out).2.2 | (with_reducible refine Kd.C_alloc ?_ _) | (with_reducible refine Kd.C_drewN ?_ _) | (with_reducible refine Kd.C_drew ?_))); (case side4 => exact (Kd.V_reads' HO170.out).2.1); rintro w' ⟨nd, rfl⟩) | (go_at_call 10; (with_reducible refine (carrefourlaw13_awake.calls kj5 _ _ A15.out).mono ?_); rintro e w20 ⟨rfl, hb⟩; replace HO167 := rb HO167 hb; replace HO170 := Aside0.mk (Kd.V_below (by (with_reducible repeat (first | apply Kd.V_alloc | apply Kd.V_drewN | apply Kd.V_drew)); exact HO170.out) hb); replace HB := bs HB hb; (try clear hb)))
            go_ret
            exact ⟨ae, bf HB⟩
          · replace c14 := Bool.eq_false_iff.mpr c14
            subst c14
            have H1 : (some false) = some r := by rw [if_neg (show ¬ (false = true) by decide)] at H; exact H
            clear H
            have H := H1
            clear H1
            obtain rfl := Option.some.inj H
            go_wp2_with (first | ((with_reducible refine gc 12 rfl ?_); refine gl_ (some 19) rfl rfl Try.func12 ((order_Nth.calls kj5 _ _ _ _ A11.out).mono ?_) ag; rintro e w21 ⟨v166, rfl, ho0, hb⟩; refine ⟨_, rfl, ?_⟩; have HO167 := Aside0.mk (Kd.R_lower ho0 (below_size (bf HB))); replace HB := bs HB hb; (try clear hb); (try clear ho0)) | ((with_reducible refine gc 13 rfl ?_); refine gl_ (some 22) rfl rfl Try.func13 ((carrefourref13_Nth.calls kj5 _ _ _ _ A12.out).mono ?_) ag; rintro e w22 ⟨v169, rfl, ho0, hb⟩; refine ⟨_, rfl, ?_⟩; have HO170 := Aside0.mk (Kd.V_lower (Kd.V_mono (ok' := fun k_ => some k_ ≠ (v166 : Value).ownBlock) ho0 (fun k_ hk_ => (Kd.fresh' (rl HO167) k_ hk_))) (below_size (bf HB))); replace HO167 := rb HO167 hb; replace HB := bs HB hb; (try clear hb); (try clear ho0); obtain ⟨Ao23, co23, eo23⟩ := Kd.R_slice HO167.out; subst eo23; obtain ⟨Ao24, co24, eo24⟩ := Kd.V_slice HO170.out; subst eo24) | ((with_reducible refine gc 11 rfl ?_); refine gm_ (some 23) rfl rfl Try.func11 (carrefourref13_Same.calls kj5 _ _ _ _ _ _ _ _ ?side1 ?side2 ?side3 ?side4 A13.out) ag ?_; (case side1 => exact rc HO167); (case side2 => exact (Kd.R_reads' HO167.out).2.1); (case side3 => repeat (first | exact (Kd.V_reads' HO170.out).2.2 | (with_reducible refine Kd.C_alloc ?_ _) | (with_reducible refine Kd.C_drewN ?_ _) | (with_reducible refine Kd.C_drew ?_))); (case side4 => exact (Kd.V_reads' HO170.out).2.1); rintro w' ⟨nd, rfl⟩))
            go_ret
            exact ⟨ae, bf HB⟩
  · rw [if_neg c5] at H
    have c5b0 : (t162 == t163) = false := beq_eq_false_iff_ne.mpr c5
    have c5b1 : (t162 != t163) = true := bne_iff_ne.mpr c5
    obtain rfl := Option.some.inj H
    go_enter Try.func3, Try.ntmps3
    go_wp2_with (first | ((with_reducible refine gc 8 rfl ?_); refine gm_ (some 6) rfl rfl Try.func8 (order_Count.calls _ _ _ _ A3.out) ag ?_; rintro w' ⟨nd, rfl⟩) | ((with_reducible refine gc 9 rfl ?_); refine gm_ (some 8) rfl rfl Try.func9 (carrefourref13_Count.calls _ _ _ _ A4.out) ag ?_; rintro w' ⟨nd, rfl⟩))
    go_ret
    exact ⟨ae, bf HB⟩

/-- THE ONE PURE STATEMENT of carrefourlaw13_OrderNth: yours. -/
def carrefourlaw13_OrderNth.Pure : Prop := ∀ (a0 : Int) (a1 : Int), (Lit.int .i64 a0).wf = true → (Lit.int .i64 a1).wf = true → ∃ k, carrefourlaw13_OrderNth.f k a0 a1 = some true
theorem carrefourlaw13_OrderNth.walk (P : carrefourlaw13_OrderNth.Pure) (a0 : Int) (a1 : Int) (w : World) (w0 : (Lit.int .i64 a0).wf = true) (w1 : (Lit.int .i64 a1).wf = true) :
    Calls Try.prog 3 #[.int .i64 a0, .int .i64 a1] w fun e w' => e = .returned (.bool true) ∧ Below w.heap.size w w' := by
  obtain ⟨k, h⟩ := P a0 a1 w0 w1
  refine (carrefourlaw13_OrderNth.calls k a0 a1 true w h).mono ?_
  rintro e w' ⟨rfl, hd⟩
  exact ⟨rfl, hd⟩

end Go.Proofs.Ytnhnmbfhepeadaa.X
