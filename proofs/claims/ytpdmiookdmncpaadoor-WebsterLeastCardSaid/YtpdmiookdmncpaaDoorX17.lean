/- The walks of functions of the program, laid by a program of this session over the translation: each '.calls' says that the Go function comes to what its Lean function tells. Conditions: as each theorem's head says. -/
import Derived.Test.YtpdmiookdmncpaaDoorXD
import Derived.Test.YtpdmiookdmncpaaDoorX0
import Derived.Test.YtpdmiookdmncpaaDoorX10
import Derived.Test.YtpdmiookdmncpaaDoorX12
import Derived.Test.YtpdmiookdmncpaaDoorX16
namespace Go.Proofs.YtpdmiookdmncpaaDoor.X
open Go.RowKit Go.Proofs.YtpdmiookdmncpaaDoorW.PrintWords Go.Proofs.YtpdmiookdmncpaaDoorW.PrintLast Go.Proofs.YtpdmiookdmncpaaDoorW.PrintMore
attribute [local go_sem] max2_int min2_int max_two min_two max_three min_three max_four min_four   -- for this text's walks alone
set_option linter.unusedVariables false
set_option linter.unusedSimpArgs false

/-! ### carrefourref01_Ceil: function 70 -/
set_option maxHeartbeats 8000000 in
set_option maxRecDepth 100000 in
theorem carrefourref01_Ceil.calls (k : Nat) (a0 : Int) (a1 : Int) (r1 : Int) (r2 : Int) (w : World) (h : carrefourref01_Ceil.f k a0 a1 = some (r1, r2)) :
    Calls Tryd.prog 70 #[.int .i64 a0, .int .i64 a1] w fun e w' => e = .returned (.tuple #[.int .i64 r1, .int .i64 r2]) ∧ Drawn0 w w' := by
  have H : ((carrefourref01_Floor.f k a0 a1).bind fun bt592 => (if bt592.2 = 0 then (if a1 = 0 then (none) else (if (Int.tmod a0 a1) = 0 then (some (bt592.1, bt592.2)) else (some (wrap64 (bt592.1 + 1), bt592.2)))) else (some (bt592.1, bt592.2)))) = some (r1, r2) := h
  clear h
  replace H := bi_ H; obtain ⟨⟨t592, t593⟩, A3, H⟩ := H
  (try dsimp only at H)
  by_cases c4 : t593 = 0
  · rw [if_pos c4] at H
    have c4b0 : (t593 == 0) = true := beq_iff_eq.mpr c4
    have c4b1 : (t593 != 0) = false := bne_eq_false_iff_eq.mpr c4
    clear c4
    by_cases c5 : a1 = 0
    · rw [if_pos c5] at H
      exact absurd H (by simp)
    · rw [if_neg c5] at H
      have c5b0 : (a1 == 0) = false := beq_eq_false_iff_ne.mpr c5
      have c5b1 : (a1 != 0) = true := bne_iff_ne.mpr c5
      by_cases c6 : (Int.tmod a0 a1) = 0
      · rw [if_pos c6] at H
        have c6b0 : ((Int.tmod a0 a1) == 0) = true := beq_iff_eq.mpr c6
        have c6b1 : ((Int.tmod a0 a1) != 0) = false := bne_eq_false_iff_eq.mpr c6
        clear c6
        simp only [Option.some.injEq, Prod.mk.injEq] at H
        obtain ⟨rfl, rfl⟩ := H
        go_enter Tryd.func70, Tryd.ntmps70
        go_wp2_with (first | ((with_reducible refine gc 92 rfl ?_); refine gl_ (some 11) rfl rfl Tryd.func92 ((carrefourref01_Floor.calls _ _ _ _ _ _ A3.out).mono ?_) ag; rintro e w' ⟨rfl, ⟨nd, rfl⟩⟩; refine ⟨_, rfl, ?_⟩))
        go_ret2
        exact ⟨aq, dr⟩
      · rw [if_neg c6] at H
        have c6b0 : ((Int.tmod a0 a1) == 0) = false := beq_eq_false_iff_ne.mpr c6
        have c6b1 : ((Int.tmod a0 a1) != 0) = true := bne_iff_ne.mpr c6
        simp only [Option.some.injEq, Prod.mk.injEq] at H
        obtain ⟨rfl, rfl⟩ := H
        go_enter Tryd.func70, Tryd.ntmps70
        go_wp2_with (first | ((with_reducible refine gc 92 rfl ?_); refine gl_ (some 11) rfl rfl Tryd.func92 ((carrefourref01_Floor.calls _ _ _ _ _ _ A3.out).mono ?_) ag; rintro e w' ⟨rfl, ⟨nd, rfl⟩⟩; refine ⟨_, rfl, ?_⟩))
        go_ret2
        exact ⟨aq, dr⟩
  · rw [if_neg c4] at H
    have c4b0 : (t593 == 0) = false := beq_eq_false_iff_ne.mpr c4
    have c4b1 : (t593 != 0) = true := bne_iff_ne.mpr c4
    simp only [Option.some.injEq, Prod.mk.injEq] at H
    obtain ⟨rfl, rfl⟩ := H
    go_enter Tryd.func70, Tryd.ntmps70
    go_wp2_with (first | ((with_reducible refine gc 92 rfl ?_); refine gl_ (some 11) rfl rfl Tryd.func92 ((carrefourref01_Floor.calls _ _ _ _ _ _ A3.out).mono ?_) ag; rintro e w' ⟨rfl, ⟨nd, rfl⟩⟩; refine ⟨_, rfl, ?_⟩))
    go_ret2
    exact ⟨aq, dr⟩

/-! ### carrefourref02_Ceil: function 39 -/
set_option maxHeartbeats 8000000 in
set_option maxRecDepth 100000 in
theorem carrefourref02_Ceil.calls (k : Nat) (a0_0 : Int) (a0_1 : Int) (r : Int) (w : World) (h : carrefourref02_Ceil.f k a0_0 a0_1 = some r) :
    Calls Tryd.prog 39 #[.agg #[.int .i64 a0_0, .int .i64 a0_1]] w fun e w' => e = .returned (.int .i64 r) ∧ Below w.heap.size w w' := by
  have hu23 := Tryd.underlying23
  have HB := Aside0.mk (Below.refl w.heap.size w)
  have H : ((carrefourref02_Norm.f k a0_0 a0_1).bind fun bt595 => ((carrefourref01_Ceil.f k bt595.1 bt595.2).bind fun bt597 => (some bt597.1))) = some r := h
  clear h
  replace H := bi_ H; obtain ⟨⟨t595, t596⟩, A2, H⟩ := H
  (try dsimp only at H)
  replace H := bi_ H; obtain ⟨⟨t597, t598⟩, A3, H⟩ := H
  (try dsimp only at H)
  obtain rfl := Option.some.inj H
  go_enter Tryd.func39, Tryd.ntmps39
  go_wp2_with (first | ((with_reducible refine gd 1 rfl ?_); refine bx_ 1 23 #[.int .i64 a0_0, .int .i64 a0_1] rfl rfl ?_; intro gb594 hg w4 BK594 hb; have GE594 := bz HB hg; replace HB := bs HB hb; clear hb hg; have hcz5 := k2 BK594) | ((with_reducible refine gc 45 rfl ?_); refine gl_ (some 6) rfl rfl Tryd.func45 ((carrefourref02_Norm.calls _ _ _ _ _ _ A2.out).mono ?_) ag; rintro e w6 ⟨rfl, hb⟩; refine ⟨_, rfl, ?_⟩; replace BK594 := bb BK594 hb; replace HB := bs HB hb; (try clear hb); have hcz7 := k2 BK594) | ((with_reducible refine gc 70 rfl ?_); refine gl_ (some 12) rfl rfl Tryd.func70 ((carrefourref01_Ceil.calls _ _ _ _ _ _ A3.out).mono ?_) ag; rintro e w' ⟨rfl, ⟨nd, rfl⟩⟩; refine ⟨_, rfl, ?_⟩))
  go_ret
  exact ⟨by first | rfl | (simp [errW_none, errW_some] <;> rfl) | (simp [*, errW_none, errW_some] <;> rfl), bf HB⟩

/-! ### carrefourref12_Cycle: function 11 -/
set_option maxHeartbeats 8000000 in
set_option maxRecDepth 100000 in
theorem carrefourref12_Cycle.calls (k : Nat) (a0 : Int) (a1_0 : Int) (a1_1 : Int) (r1 : Int) (r2 : Bool) (r3 : Int) (w : World) (h : carrefourref12_Cycle.f k a0 a1_0 a1_1 = some (r1, r2, r3)) :
    Calls Tryd.prog 11 #[.int .i64 a0, .agg #[.int .i64 a1_0, .int .i64 a1_1]] w fun e w' => e = .returned (.tuple #[.int .i64 r1, .bool r2, .int .i64 r3]) ∧ Below w.heap.size w w' := by
  have hu23 := Tryd.underlying23
  have HB := Aside0.mk (Below.refl w.heap.size w)
  have H : (if a0 < 0 then (carrefourref12_Cycle.j0 k a0 true a1_0 a1_1 1 1) else (if a0 > 600000 then (carrefourref12_Cycle.j0 k a0 true a1_0 a1_1 1 1) else ((carrefourref02_Right.f k a1_0 a1_1).bind fun t601 => (if t601 = true then (carrefourref12_Cycle.j0 k a0 (decide (a1_0 < 0)) a1_0 a1_1 1 1) else (carrefourref12_Cycle.j0 k a0 true a1_0 a1_1 1 1))))) = some (r1, r2, r3) := h
  clear h
  have HC3 := Aside0.mk H
  clear H
  go_enter Tryd.func11, Tryd.ntmps11
  go_upto_region 2 with (first | ((with_reducible refine gd 3 rfl ?_); refine bx_ 3 23 #[.int .i64 a1_0, .int .i64 a1_1] rfl rfl ?_; intro gb599 hg w4 BK599 hb; have GE599 := bz HB hg; replace HB := bs HB hb; clear hb hg) | ((with_reducible refine gd 7 rfl ?_); refine bx_ 7 23 #[.int .i64 0, .int .i64 0] rfl rfl ?_; intro gb600 hg w5 BK600 hb; have GE600 := bz HB hg; have ⟨NB599_600, NB600_599⟩ := nb BK599 hg; replace BK599 := bb BK599 hb; replace HB := bs HB hb; clear hb hg; have hnb6 := nn NB600_599; have hcz7 := k2 BK600))
  (try simp only [Act.put, si, s0, s1])
  go_cut [29] (fun v29 wc => ∃ (kq : Nat) (x29_2 : Bool), v29 = .bool x29_2 ∧ Aside0 (carrefourref12_Cycle.j0 kq a0 x29_2 a1_0 a1_1 1 1 = some (r1, r2, r3)) ∧ Aside0 (kq ≤ k) ∧ Aside0 (wc.heap[gb599]? = some (.cells #[.int .i64 a1_0, .int .i64 a1_1] 23 (0, 0))) ∧ Aside0 (wc.heap[gb600]? = some (.cells #[.int .i64 1, .int .i64 1] 23 (0, 0))) ∧ Aside0 (Below w.heap.size w wc))
  case first =>
    have H := HC3.out
    clear HC3
    by_cases c8 : a0 < 0
    · rw [if_pos c8] at H
      have c8b0 : decide (a0 < 0) = true := decide_eq_true c8
      clear c8
      (first | rw [c8b0] | (simp only [i64_w, i32_w]; rw [c8b0]) | skip)
      have H' := Aside0.mk H
      clear H
      go_wp2
      go_meet
      case rel => exact ⟨_, (true), (aq), H', ⟨by first | omega | exact Nat.le_refl _⟩, bu_ BK599, bq_ BK600, ⟨bf HB⟩⟩
    · rw [if_neg c8] at H
      have c8b0 : decide (a0 < 0) = false := decide_eq_false c8
      clear c8
      (first | rw [c8b0] | (simp only [i64_w, i32_w]; rw [c8b0]) | skip)
      by_cases c9 : a0 > 600000
      · rw [if_pos c9] at H
        have c9b0 : decide (600000 < a0) = true := decide_eq_true c9
        clear c9
        have H' := Aside0.mk H
        clear H
        go_wp2
        go_meet
        case rel => exact ⟨_, (true), (aq), H', ⟨by first | omega | exact Nat.le_refl _⟩, bu_ BK599, bq_ BK600, ⟨bf HB⟩⟩
      · rw [if_neg c9] at H
        have c9b0 : decide (600000 < a0) = false := decide_eq_false c9
        clear c9
        replace H := bi_ H; obtain ⟨t601, A10, H⟩ := H
        (try dsimp only at H)
        by_cases c11 : t601 = true
        · subst c11
          have H1 : (carrefourref12_Cycle.j0 k a0 (decide (a1_0 < 0)) a1_0 a1_1 1 1) = some (r1, r2, r3) := by rw [if_pos rfl] at H; exact H
          clear H
          have H := H1
          clear H1
          have H' := Aside0.mk H
          clear H
          have hnb12 := nn NB599_600
          have hcz13 := k2 BK599
          go_wp2_with (first | (go_at_call 31; (with_reducible refine (carrefourref02_Right.calls _ _ _ _ _ A10.out).mono ?_); rintro e w14 ⟨rfl, hb⟩; replace BK599 := bb BK599 hb; replace BK600 := bp_ #[.int .i64 1, .int .i64 1] BK600 hb; replace HB := bs HB hb; (try clear hb); have hcz15 := k2 BK599))
          go_meet
          case rel => exact ⟨_, (decide (a1_0 < 0)), (aq), H', ⟨by first | omega | exact Nat.le_refl _⟩, bu_ BK599, bu_ BK600, ⟨bf HB⟩⟩
        · replace c11 := Bool.eq_false_iff.mpr c11
          subst c11
          have H1 : (carrefourref12_Cycle.j0 k a0 true a1_0 a1_1 1 1) = some (r1, r2, r3) := by rw [if_neg (show ¬ (false = true) by decide)] at H; exact H
          clear H
          have H := H1
          clear H1
          have H' := Aside0.mk H
          clear H
          have hnb16 := nn NB599_600
          have hcz17 := k2 BK599
          go_wp2_with (first | (go_at_call 31; (with_reducible refine (carrefourref02_Right.calls _ _ _ _ _ A10.out).mono ?_); rintro e w18 ⟨rfl, hb⟩; replace BK599 := bb BK599 hb; replace BK600 := bp_ #[.int .i64 1, .int .i64 1] BK600 hb; replace HB := bs HB hb; (try clear hb)))
          go_meet
          case rel => exact ⟨_, (true), (aq), H', ⟨by first | omega | exact Nat.le_refl _⟩, bu_ BK599, bu_ BK600, ⟨bf HB⟩⟩
  case rest =>
    clear HC3
    try clear c1
    try clear p2
    try clear c6
    try clear c8
    try clear c8b0
    try clear c9
    try clear c9b0
    try clear c11
    try clear c12
    try clear c16
    try clear hcz13
    try clear hcz15
    try clear hcz17
    try clear hcz7
    obtain ⟨kq, x29_2, rfl, HA, HJ2, BK599, BK600, HB⟩ := hcut
    cases kq with
    | zero => exact absurd HA.out (by simp [carrefourref12_Cycle.j0])
    | succ kj2 =>
      have H := HA.out
      clear HA
      simp only [carrefourref12_Cycle.j0] at H
      by_cases c19 : x29_2 = true
      · subst c19
        have H1 : (some (0, false, 1)) = some (r1, r2, r3) := by rw [if_pos rfl] at H; exact H
        clear H
        have H := H1
        clear H1
        simp only [Option.some.injEq, Prod.mk.injEq] at H
        obtain ⟨rfl, rfl, rfl⟩ := H
        go_wp2
        go_ret3
        exact ⟨by first | rfl | (simp [errW_none, errW_some] <;> rfl) | (simp [*, errW_none, errW_some] <;> rfl), bf HB⟩
      · replace c19 := Bool.eq_false_iff.mpr c19
        subst c19
        have H1 : ((carrefourref02_Cmp.f kj2 a1_0 a1_1 1 1).bind fun t602 => (if t602 ≥ 0 then (some (0, false, 0)) else ((carrefourref02_Of.f kj2 (wrap64 ((wrap64 (3 * a0)) + 100)) 2).bind fun bt603 => ((carrefourref02_Sub.f kj2 1 1 a1_0 a1_1).bind fun bt607 => (if bt607.2.2 = 0 then ((carrefourref02_Div.f kj2 bt603.1 bt603.2.1 bt607.1 bt607.2.1).bind fun bt611 => (if bt611.2.2 = 0 then ((carrefourref02_Ceil.f kj2 bt611.1 bt611.2.1).bind fun t615 => (some (t615, true, 0))) else (some (0, false, bt611.2.2)))) else (some (0, false, bt607.2.2))))))) = some (r1, r2, r3) := by rw [if_neg (show ¬ (false = true) by decide)] at H; exact H
        clear H
        have H := H1
        clear H1
        replace H := bi_ H; obtain ⟨t602, A20, H⟩ := H
        (try dsimp only at H)
        by_cases c21 : t602 ≥ 0
        · rw [if_pos c21] at H
          have c21b0 : decide (0 ≤ t602) = true := decide_eq_true c21
          clear c21
          simp only [Option.some.injEq, Prod.mk.injEq] at H
          obtain ⟨rfl, rfl, rfl⟩ := H
          have hnb22 := nn NB599_600
          have hcz23 := k2 BK599
          have hcz24 := k2 BK600
          go_wp2_with (first | ((with_reducible refine gc 19 rfl ?_); refine gl_ (some 32) rfl rfl Tryd.func19 ((carrefourref02_Cmp.calls kj2 _ _ _ _ _ _ A20.out).mono ?_) ag; rintro e w25 ⟨rfl, hb⟩; refine ⟨_, rfl, ?_⟩; replace BK599 := bb BK599 hb; replace BK600 := bb BK600 hb; replace HB := bs HB hb; (try clear hb)))
          go_ret3
          exact ⟨by first | rfl | (simp [errW_none, errW_some] <;> rfl) | (simp [*, errW_none, errW_some] <;> rfl), bf HB⟩
        · rw [if_neg c21] at H
          have c21b0 : decide (0 ≤ t602) = false := decide_eq_false c21
          clear c21
          replace H := bi_ H; obtain ⟨⟨t603, t604, t605⟩, A26, H⟩ := H
          (try dsimp only at H)
          replace H := bi_ H; obtain ⟨⟨t607, t608, t609⟩, A27, H⟩ := H
          (try dsimp only at H)
          by_cases c28 : t609 = 0
          · rw [if_pos c28] at H
            have c28b0 : (t609 == 0) = true := beq_iff_eq.mpr c28
            have c28b1 : (t609 != 0) = false := bne_eq_false_iff_eq.mpr c28
            clear c28
            replace H := bi_ H; obtain ⟨⟨t611, t612, t613⟩, A29, H⟩ := H
            (try dsimp only at H)
            by_cases c30 : t613 = 0
            · rw [if_pos c30] at H
              have c30b0 : (t613 == 0) = true := beq_iff_eq.mpr c30
              have c30b1 : (t613 != 0) = false := bne_eq_false_iff_eq.mpr c30
              clear c30
              replace H := bi_ H; obtain ⟨t615, A31, H⟩ := H
              (try dsimp only at H)
              simp only [Option.some.injEq, Prod.mk.injEq] at H
              obtain ⟨rfl, rfl, rfl⟩ := H
              have hnb32 := nn NB599_600
              have hcz33 := k2 BK599
              have hcz34 := k2 BK600
              go_wp2_with (first | ((with_reducible refine gc 19 rfl ?_); refine gl_ (some 32) rfl rfl Tryd.func19 ((carrefourref02_Cmp.calls kj2 _ _ _ _ _ _ A20.out).mono ?_) ag; rintro e w35 ⟨rfl, hb⟩; refine ⟨_, rfl, ?_⟩; replace BK599 := bb BK599 hb; replace BK600 := bb BK600 hb; replace HB := bs HB hb; (try clear hb)) | ((with_reducible refine gc 17 rfl ?_); refine gl_ (some 38) rfl rfl Tryd.func17 ((carrefourref02_Of.calls kj2 (wrap64 ((wrap64 (3 * a0)) + 100)) _ _ _ _ _ A26.out).mono ?_) ag; rintro e w36 ⟨rfl, hb⟩; refine ⟨_, rfl, ?_⟩; replace BK599 := bb BK599 hb; replace BK600 := bb BK600 hb; replace HB := bs HB hb; (try clear hb)) | ((with_reducible refine gd 8 rfl ?_); refine bx_ 8 23 #[.int .i64 0, .int .i64 0] rfl rfl ?_; intro gb606 hg w37 BK606 hb; have GE606 := bz HB hg; have ⟨NB599_606, NB606_599⟩ := nb BK599 hg; have ⟨NB600_606, NB606_600⟩ := nb BK600 hg; replace BK599 := bb BK599 hb; replace BK600 := bb BK600 hb; replace HB := bs HB hb; clear hb hg; have hnb38 := nn NB606_599; have hnb39 := nn NB606_600; have hcz40 := k2 BK606; have hcz41 := k2 BK600; have hcz42 := k2 BK599) | ((with_reducible refine gc 37 rfl ?_); refine gl_ (some 44) rfl rfl Tryd.func37 ((carrefourref02_Sub.calls kj2 _ _ _ _ _ _ _ _ A27.out).mono ?_) ag; rintro e w43 ⟨rfl, hb⟩; refine ⟨_, rfl, ?_⟩; replace BK599 := bb BK599 hb; replace BK600 := bb BK600 hb; replace BK606 := bp_ #[.int .i64 t603, .int .i64 t604] BK606 hb; replace HB := bs HB hb; (try clear hb)) | ((with_reducible refine gd 10 rfl ?_); refine bx_ 10 23 #[.int .i64 0, .int .i64 0] rfl rfl ?_; intro gb610 hg w44 BK610 hb; have GE610 := bz HB hg; have ⟨NB599_610, NB610_599⟩ := nb BK599 hg; have ⟨NB600_610, NB610_600⟩ := nb BK600 hg; have ⟨NB606_610, NB610_606⟩ := nb BK606 hg; replace BK599 := bb BK599 hb; replace BK600 := bb BK600 hb; replace BK606 := bb BK606 hb; replace HB := bs HB hb; clear hb hg; have hnb45 := nn NB610_599; have hnb46 := nn NB610_600; have hnb47 := nn NB610_606; have hcz48 := k2 BK610; have hcz49 := k2 BK606) | ((with_reducible refine gc 38 rfl ?_); refine gl_ (some 53) rfl rfl Tryd.func38 ((carrefourref02_Div.calls kj2 _ _ _ _ _ _ _ _ A29.out).mono ?_) ag; rintro e w50 ⟨rfl, hb⟩; refine ⟨_, rfl, ?_⟩; replace BK599 := bb BK599 hb; replace BK600 := bb BK600 hb; replace BK606 := bb BK606 hb; replace BK610 := bp_ #[.int .i64 t607, .int .i64 t608] BK610 hb; replace HB := bs HB hb; (try clear hb)) | ((with_reducible refine gd 12 rfl ?_); refine bx_ 12 23 #[.int .i64 0, .int .i64 0] rfl rfl ?_; intro gb614 hg w51 BK614 hb; have GE614 := bz HB hg; have ⟨NB599_614, NB614_599⟩ := nb BK599 hg; have ⟨NB600_614, NB614_600⟩ := nb BK600 hg; have ⟨NB606_614, NB614_606⟩ := nb BK606 hg; have ⟨NB610_614, NB614_610⟩ := nb BK610 hg; replace BK599 := bb BK599 hb; replace BK600 := bb BK600 hb; replace BK606 := bb BK606 hb; replace BK610 := bb BK610 hb; replace HB := bs HB hb; clear hb hg; have hnb52 := nn NB614_599; have hnb53 := nn NB614_600; have hnb54 := nn NB614_606; have hnb55 := nn NB614_610; have hcz56 := k2 BK614) | ((with_reducible refine gc 39 rfl ?_); refine gl_ (some 60) rfl rfl Tryd.func39 ((carrefourref02_Ceil.calls kj2 _ _ _ _ A31.out).mono ?_) ag; rintro e w57 ⟨rfl, hb⟩; refine ⟨_, rfl, ?_⟩; replace BK599 := bb BK599 hb; replace BK600 := bb BK600 hb; replace BK606 := bb BK606 hb; replace BK610 := bb BK610 hb; replace BK614 := bp_ #[.int .i64 t611, .int .i64 t612] BK614 hb; replace HB := bs HB hb; (try clear hb)))
              go_ret3
              exact ⟨by first | rfl | (simp [errW_none, errW_some] <;> rfl) | (simp [*, errW_none, errW_some] <;> rfl), bf HB⟩
            · rw [if_neg c30] at H
              have c30b0 : (t613 == 0) = false := beq_eq_false_iff_ne.mpr c30
              have c30b1 : (t613 != 0) = true := bne_iff_ne.mpr c30
              simp only [Option.some.injEq, Prod.mk.injEq] at H
              obtain ⟨rfl, rfl, rfl⟩ := H
              have hnb58 := nn NB599_600
              have hcz59 := k2 BK599
              have hcz60 := k2 BK600
              go_wp2_with (first | ((with_reducible refine gc 19 rfl ?_); refine gl_ (some 32) rfl rfl Tryd.func19 ((carrefourref02_Cmp.calls kj2 _ _ _ _ _ _ A20.out).mono ?_) ag; rintro e w61 ⟨rfl, hb⟩; refine ⟨_, rfl, ?_⟩; replace BK599 := bb BK599 hb; replace BK600 := bb BK600 hb; replace HB := bs HB hb; (try clear hb)) | ((with_reducible refine gc 17 rfl ?_); refine gl_ (some 38) rfl rfl Tryd.func17 ((carrefourref02_Of.calls kj2 (wrap64 ((wrap64 (3 * a0)) + 100)) _ _ _ _ _ A26.out).mono ?_) ag; rintro e w62 ⟨rfl, hb⟩; refine ⟨_, rfl, ?_⟩; replace BK599 := bb BK599 hb; replace BK600 := bb BK600 hb; replace HB := bs HB hb; (try clear hb)) | ((with_reducible refine gd 8 rfl ?_); refine bx_ 8 23 #[.int .i64 0, .int .i64 0] rfl rfl ?_; intro gb606 hg w63 BK606 hb; have GE606 := bz HB hg; have ⟨NB599_606, NB606_599⟩ := nb BK599 hg; have ⟨NB600_606, NB606_600⟩ := nb BK600 hg; replace BK599 := bb BK599 hb; replace BK600 := bb BK600 hb; replace HB := bs HB hb; clear hb hg; have hnb64 := nn NB606_599; have hnb65 := nn NB606_600; have hcz66 := k2 BK606; have hcz67 := k2 BK600; have hcz68 := k2 BK599) | ((with_reducible refine gc 37 rfl ?_); refine gl_ (some 44) rfl rfl Tryd.func37 ((carrefourref02_Sub.calls kj2 _ _ _ _ _ _ _ _ A27.out).mono ?_) ag; rintro e w69 ⟨rfl, hb⟩; refine ⟨_, rfl, ?_⟩; replace BK599 := bb BK599 hb; replace BK600 := bb BK600 hb; replace BK606 := bp_ #[.int .i64 t603, .int .i64 t604] BK606 hb; replace HB := bs HB hb; (try clear hb)) | ((with_reducible refine gd 10 rfl ?_); refine bx_ 10 23 #[.int .i64 0, .int .i64 0] rfl rfl ?_; intro gb610 hg w70 BK610 hb; have GE610 := bz HB hg; have ⟨NB599_610, NB610_599⟩ := nb BK599 hg; have ⟨NB600_610, NB610_600⟩ := nb BK600 hg; have ⟨NB606_610, NB610_606⟩ := nb BK606 hg; replace BK599 := bb BK599 hb; replace BK600 := bb BK600 hb; replace BK606 := bb BK606 hb; replace HB := bs HB hb; clear hb hg; have hnb71 := nn NB610_599; have hnb72 := nn NB610_600; have hnb73 := nn NB610_606; have hcz74 := k2 BK610; have hcz75 := k2 BK606) | ((with_reducible refine gc 38 rfl ?_); refine gl_ (some 53) rfl rfl Tryd.func38 ((carrefourref02_Div.calls kj2 _ _ _ _ _ _ _ _ A29.out).mono ?_) ag; rintro e w76 ⟨rfl, hb⟩; refine ⟨_, rfl, ?_⟩; replace BK599 := bb BK599 hb; replace BK600 := bb BK600 hb; replace BK606 := bb BK606 hb; replace BK610 := bp_ #[.int .i64 t607, .int .i64 t608] BK610 hb; replace HB := bs HB hb; (try clear hb)) | ((with_reducible refine gd 12 rfl ?_); refine bx_ 12 23 #[.int .i64 0, .int .i64 0] rfl rfl ?_; intro gb614 hg w77 BK614 hb; have GE614 := bz HB hg; have ⟨NB599_614, NB614_599⟩ := nb BK599 hg; have ⟨NB600_614, NB614_600⟩ := nb BK600 hg; have ⟨NB606_614, NB614_606⟩ := nb BK606 hg; have ⟨NB610_614, NB614_610⟩ := nb BK610 hg; replace BK599 := bb BK599 hb; replace BK600 := bb BK600 hb; replace BK606 := bb BK606 hb; replace BK610 := bb BK610 hb; replace HB := bs HB hb; clear hb hg; have hnb78 := nn NB614_599; have hnb79 := nn NB614_600; have hnb80 := nn NB614_606; have hnb81 := nn NB614_610; have hcz82 := k2 BK614))
              go_ret3
              exact ⟨by first | rfl | (simp [errW_none, errW_some] <;> rfl) | (simp [*, errW_none, errW_some] <;> rfl), bf HB⟩
          · rw [if_neg c28] at H
            have c28b0 : (t609 == 0) = false := beq_eq_false_iff_ne.mpr c28
            have c28b1 : (t609 != 0) = true := bne_iff_ne.mpr c28
            simp only [Option.some.injEq, Prod.mk.injEq] at H
            obtain ⟨rfl, rfl, rfl⟩ := H
            have hnb83 := nn NB599_600
            have hcz84 := k2 BK599
            have hcz85 := k2 BK600
            go_wp2_with (first | ((with_reducible refine gc 19 rfl ?_); refine gl_ (some 32) rfl rfl Tryd.func19 ((carrefourref02_Cmp.calls kj2 _ _ _ _ _ _ A20.out).mono ?_) ag; rintro e w86 ⟨rfl, hb⟩; refine ⟨_, rfl, ?_⟩; replace BK599 := bb BK599 hb; replace BK600 := bb BK600 hb; replace HB := bs HB hb; (try clear hb)) | ((with_reducible refine gc 17 rfl ?_); refine gl_ (some 38) rfl rfl Tryd.func17 ((carrefourref02_Of.calls kj2 (wrap64 ((wrap64 (3 * a0)) + 100)) _ _ _ _ _ A26.out).mono ?_) ag; rintro e w87 ⟨rfl, hb⟩; refine ⟨_, rfl, ?_⟩; replace BK599 := bb BK599 hb; replace BK600 := bb BK600 hb; replace HB := bs HB hb; (try clear hb)) | ((with_reducible refine gd 8 rfl ?_); refine bx_ 8 23 #[.int .i64 0, .int .i64 0] rfl rfl ?_; intro gb606 hg w88 BK606 hb; have GE606 := bz HB hg; have ⟨NB599_606, NB606_599⟩ := nb BK599 hg; have ⟨NB600_606, NB606_600⟩ := nb BK600 hg; replace BK599 := bb BK599 hb; replace BK600 := bb BK600 hb; replace HB := bs HB hb; clear hb hg; have hnb89 := nn NB606_599; have hnb90 := nn NB606_600; have hcz91 := k2 BK606; have hcz92 := k2 BK600; have hcz93 := k2 BK599) | ((with_reducible refine gc 37 rfl ?_); refine gl_ (some 44) rfl rfl Tryd.func37 ((carrefourref02_Sub.calls kj2 _ _ _ _ _ _ _ _ A27.out).mono ?_) ag; rintro e w94 ⟨rfl, hb⟩; refine ⟨_, rfl, ?_⟩; replace BK599 := bb BK599 hb; replace BK600 := bb BK600 hb; replace BK606 := bp_ #[.int .i64 t603, .int .i64 t604] BK606 hb; replace HB := bs HB hb; (try clear hb)) | ((with_reducible refine gd 10 rfl ?_); refine bx_ 10 23 #[.int .i64 0, .int .i64 0] rfl rfl ?_; intro gb610 hg w95 BK610 hb; have GE610 := bz HB hg; have ⟨NB599_610, NB610_599⟩ := nb BK599 hg; have ⟨NB600_610, NB610_600⟩ := nb BK600 hg; have ⟨NB606_610, NB610_606⟩ := nb BK606 hg; replace BK599 := bb BK599 hb; replace BK600 := bb BK600 hb; replace BK606 := bb BK606 hb; replace HB := bs HB hb; clear hb hg; have hnb96 := nn NB610_599; have hnb97 := nn NB610_600; have hnb98 := nn NB610_606; have hcz99 := k2 BK610))
            go_ret3
            exact ⟨by first | rfl | (simp [errW_none, errW_some] <;> rfl) | (simp [*, errW_none, errW_some] <;> rfl), bf HB⟩

/-! ### webster_right: function 40 -/
set_option maxHeartbeats 8000000 in
set_option maxRecDepth 100000 in
theorem webster_right.calls (a0_0 : Int) (a0_1 : Int) (a0_2 : Int) (a0_3 : Int) (a0_4 : Int) (A0_5 : Option Addr) (c0_5 : Nat) (l0_5 : List (S55)) (A0_6 : Option Addr) (c0_6 : Nat) (l0_6 : List (S120)) (a0_7 : Int) (a0_8 : Int) (r : Bool) (w : World) (hr0_5 : Kd.C k55 w A0_5 l0_5.length l0_5) (hc0_5 : l0_5.length ≤ c0_5) (hr0_6 : Kd.C k120 w A0_6 l0_6.length l0_6) (hc0_6 : l0_6.length ≤ c0_6) (h : webster_right.f a0_0 a0_1 a0_2 a0_3 a0_4 l0_5 l0_6 a0_7 a0_8 = some r) :
    Calls Tryd.prog 40 #[.agg #[.int .i64 a0_0, .int .i64 a0_1, .int .i64 a0_2, .int .i64 a0_3, .int .i64 a0_4, .slice A0_5 l0_5.length c0_5, .slice A0_6 l0_6.length c0_6, .int .i64 a0_7, .int .i64 a0_8]] w fun e w' => e = .returned (.bool r) ∧ Below w.heap.size w w' := by
  have hu32 := Tryd.underlying32
  have HR0_5 := Aside0.mk hr0_5
  have HC0_5 := Aside0.mk hc0_5
  clear hr0_5 hc0_5
  have HR0_6 := Aside0.mk hr0_6
  have HC0_6 := Aside0.mk hc0_6
  clear hr0_6 hc0_6
  have HB := Aside0.mk (Below.refl w.heap.size w)
  have H : (if 1 ≤ a0_0 then (if a0_0 ≤ a0_1 then (if a0_1 ≤ 6000 then (some (decide (a0_2 ≥ 1))) else (some false)) else (some false)) else (some false)) = some r := h
  clear h
  by_cases c2 : 1 ≤ a0_0
  · rw [if_pos c2] at H
    have c2b0 : decide (1 ≤ a0_0) = true := decide_eq_true c2
    clear c2
    by_cases c3 : a0_0 ≤ a0_1
    · rw [if_pos c3] at H
      have c3b0 : decide (a0_0 ≤ a0_1) = true := decide_eq_true c3
      clear c3
      by_cases c4 : a0_1 ≤ 6000
      · rw [if_pos c4] at H
        have c4b0 : decide (a0_1 ≤ 6000) = true := decide_eq_true c4
        clear c4
        obtain rfl := Option.some.inj H
        go_enter Tryd.func40, Tryd.ntmps40
        go_wp2_with (first | ((with_reducible refine gd 1 rfl ?_); refine bx_ 1 32 #[.int .i64 a0_0, .int .i64 a0_1, .int .i64 a0_2, .int .i64 a0_3, .int .i64 a0_4, .slice A0_5 l0_5.length c0_5, .slice A0_6 l0_6.length c0_6, .int .i64 a0_7, .int .i64 a0_8] rfl rfl ?_; intro gb616 hg w5 BK616 hb; have GE616 := bz HB hg; replace HB := bs HB hb; clear hb hg; have hcz6 := k9 BK616))
        go_ret
        exact ⟨by first | rfl | (simp [errW_none, errW_some] <;> rfl) | (simp [*, errW_none, errW_some] <;> rfl), bf HB⟩
      · rw [if_neg c4] at H
        have c4b0 : decide (a0_1 ≤ 6000) = false := decide_eq_false c4
        clear c4
        obtain rfl := Option.some.inj H
        go_enter Tryd.func40, Tryd.ntmps40
        go_wp2_with (first | ((with_reducible refine gd 1 rfl ?_); refine bx_ 1 32 #[.int .i64 a0_0, .int .i64 a0_1, .int .i64 a0_2, .int .i64 a0_3, .int .i64 a0_4, .slice A0_5 l0_5.length c0_5, .slice A0_6 l0_6.length c0_6, .int .i64 a0_7, .int .i64 a0_8] rfl rfl ?_; intro gb616 hg w7 BK616 hb; have GE616 := bz HB hg; replace HB := bs HB hb; clear hb hg; have hcz8 := k9 BK616))
        go_ret
        exact ⟨by first | rfl | (simp [errW_none, errW_some] <;> rfl) | (simp [*, errW_none, errW_some] <;> rfl), bf HB⟩
    · rw [if_neg c3] at H
      have c3b0 : decide (a0_0 ≤ a0_1) = false := decide_eq_false c3
      clear c3
      obtain rfl := Option.some.inj H
      go_enter Tryd.func40, Tryd.ntmps40
      go_wp2_with (first | ((with_reducible refine gd 1 rfl ?_); refine bx_ 1 32 #[.int .i64 a0_0, .int .i64 a0_1, .int .i64 a0_2, .int .i64 a0_3, .int .i64 a0_4, .slice A0_5 l0_5.length c0_5, .slice A0_6 l0_6.length c0_6, .int .i64 a0_7, .int .i64 a0_8] rfl rfl ?_; intro gb616 hg w9 BK616 hb; have GE616 := bz HB hg; replace HB := bs HB hb; clear hb hg; have hcz10 := k9 BK616))
      go_ret
      exact ⟨by first | rfl | (simp [errW_none, errW_some] <;> rfl) | (simp [*, errW_none, errW_some] <;> rfl), bf HB⟩
  · rw [if_neg c2] at H
    have c2b0 : decide (1 ≤ a0_0) = false := decide_eq_false c2
    clear c2
    obtain rfl := Option.some.inj H
    go_enter Tryd.func40, Tryd.ntmps40
    go_wp2_with (first | ((with_reducible refine gd 1 rfl ?_); refine bx_ 1 32 #[.int .i64 a0_0, .int .i64 a0_1, .int .i64 a0_2, .int .i64 a0_3, .int .i64 a0_4, .slice A0_5 l0_5.length c0_5, .slice A0_6 l0_6.length c0_6, .int .i64 a0_7, .int .i64 a0_8] rfl rfl ?_; intro gb616 hg w11 BK616 hb; have GE616 := bz HB hg; replace HB := bs HB hb; clear hb hg; have hcz12 := k9 BK616))
    go_ret
    exact ⟨by first | rfl | (simp [errW_none, errW_some] <;> rfl) | (simp [*, errW_none, errW_some] <;> rfl), bf HB⟩

/-! ### webster_Count: function 15 -/
set_option maxHeartbeats 8000000 in
set_option maxRecDepth 100000 in
theorem webster_Count.calls (a0_0 : Int) (a0_1 : Int) (a0_2 : Int) (a0_3 : Int) (a0_4 : Int) (A0_5 : Option Addr) (c0_5 : Nat) (l0_5 : List (S55)) (A0_6 : Option Addr) (c0_6 : Nat) (l0_6 : List (S120)) (a0_7 : Int) (a0_8 : Int) (r : Int) (w : World) (hr0_5 : Kd.C k55 w A0_5 l0_5.length l0_5) (hc0_5 : l0_5.length ≤ c0_5) (hr0_6 : Kd.C k120 w A0_6 l0_6.length l0_6) (hc0_6 : l0_6.length ≤ c0_6) (h : webster_Count.f a0_0 a0_1 a0_2 a0_3 a0_4 l0_5 l0_6 a0_7 a0_8 = some r) :
    Calls Tryd.prog 15 #[.agg #[.int .i64 a0_0, .int .i64 a0_1, .int .i64 a0_2, .int .i64 a0_3, .int .i64 a0_4, .slice A0_5 l0_5.length c0_5, .slice A0_6 l0_6.length c0_6, .int .i64 a0_7, .int .i64 a0_8]] w fun e w' => e = .returned (.int .i64 r) ∧ Below w.heap.size w w' := by
  have hu32 := Tryd.underlying32
  have HR0_5 := Aside0.mk hr0_5
  have HC0_5 := Aside0.mk hc0_5
  clear hr0_5 hc0_5
  have HR0_6 := Aside0.mk hr0_6
  have HC0_6 := Aside0.mk hc0_6
  clear hr0_6 hc0_6
  have HB := Aside0.mk (Below.refl w.heap.size w)
  have H : ((webster_right.f a0_0 a0_1 a0_2 a0_3 a0_4 l0_5 l0_6 a0_7 a0_8).bind fun t618 => (if t618 = true then (if a0_2 = 0 then (none) else (some (wrap64 ((wrap64 (Int.tdiv (wrap64 (a0_1 - a0_0)) a0_2)) + 1)))) else (some 0))) = some r := h
  clear h
  replace H := bi_ H; obtain ⟨t618, A2, H⟩ := H
  (try dsimp only at H)
  by_cases c3 : t618 = true
  · subst c3
    have H1 : (if a0_2 = 0 then (none) else (some (wrap64 ((wrap64 (Int.tdiv (wrap64 (a0_1 - a0_0)) a0_2)) + 1)))) = some r := by rw [if_pos rfl] at H; exact H
    clear H
    have H := H1
    clear H1
    by_cases c4 : a0_2 = 0
    · rw [if_pos c4] at H
      exact absurd H (by simp)
    · rw [if_neg c4] at H
      have c4b0 : (a0_2 == 0) = false := beq_eq_false_iff_ne.mpr c4
      have c4b1 : (a0_2 != 0) = true := bne_iff_ne.mpr c4
      obtain rfl := Option.some.inj H
      go_enter Tryd.func15, Tryd.ntmps15
      go_wp2_with (first | ((with_reducible refine gd 1 rfl ?_); refine bx_ 1 32 #[.int .i64 a0_0, .int .i64 a0_1, .int .i64 a0_2, .int .i64 a0_3, .int .i64 a0_4, .slice A0_5 l0_5.length c0_5, .slice A0_6 l0_6.length c0_6, .int .i64 a0_7, .int .i64 a0_8] rfl rfl ?_; intro gb617 hg w5 BK617 hb; have GE617 := bz HB hg; replace HB := bs HB hb; clear hb hg; have hcz6 := k9 BK617) | ((with_reducible refine gc 40 rfl ?_); refine gl_ (some 4) rfl rfl Tryd.func40 ((webster_right.calls _ _ _ _ _ _ _ _ _ _ _ _ _ _ _ ?side1 ?side2 ?side3 ?side4 A2.out).mono ?_) ag; (case side1 => repeat (first | exact (Kd.C_below HR0_5.out HB.out) | (with_reducible refine Kd.C_alloc ?_ _) | (with_reducible refine Kd.C_drewN ?_ _) | (with_reducible refine Kd.C_drew ?_))); (case side2 => exact HC0_5.out); (case side3 => repeat (first | exact (Kd.C_below HR0_6.out HB.out) | (with_reducible refine Kd.C_alloc ?_ _) | (with_reducible refine Kd.C_drewN ?_ _) | (with_reducible refine Kd.C_drew ?_))); (case side4 => exact HC0_6.out); rintro e w7 ⟨rfl, hb⟩; refine ⟨_, rfl, ?_⟩; replace BK617 := bb BK617 hb; replace HB := bs HB hb; (try clear hb); have hcz8 := k9 BK617))
      go_ret
      exact ⟨by first | rfl | (simp [errW_none, errW_some] <;> rfl) | (simp [*, errW_none, errW_some] <;> rfl), bf HB⟩
  · replace c3 := Bool.eq_false_iff.mpr c3
    subst c3
    have H1 : (some 0) = some r := by rw [if_neg (show ¬ (false = true) by decide)] at H; exact H
    clear H
    have H := H1
    clear H1
    obtain rfl := Option.some.inj H
    go_enter Tryd.func15, Tryd.ntmps15
    go_wp2_with (first | ((with_reducible refine gd 1 rfl ?_); refine bx_ 1 32 #[.int .i64 a0_0, .int .i64 a0_1, .int .i64 a0_2, .int .i64 a0_3, .int .i64 a0_4, .slice A0_5 l0_5.length c0_5, .slice A0_6 l0_6.length c0_6, .int .i64 a0_7, .int .i64 a0_8] rfl rfl ?_; intro gb617 hg w9 BK617 hb; have GE617 := bz HB hg; replace HB := bs HB hb; clear hb hg; have hcz10 := k9 BK617) | ((with_reducible refine gc 40 rfl ?_); refine gl_ (some 4) rfl rfl Tryd.func40 ((webster_right.calls _ _ _ _ _ _ _ _ _ _ _ _ _ _ _ ?side1 ?side2 ?side3 ?side4 A2.out).mono ?_) ag; (case side1 => repeat (first | exact (Kd.C_below HR0_5.out HB.out) | (with_reducible refine Kd.C_alloc ?_ _) | (with_reducible refine Kd.C_drewN ?_ _) | (with_reducible refine Kd.C_drew ?_))); (case side2 => exact HC0_5.out); (case side3 => repeat (first | exact (Kd.C_below HR0_6.out HB.out) | (with_reducible refine Kd.C_alloc ?_ _) | (with_reducible refine Kd.C_drewN ?_ _) | (with_reducible refine Kd.C_drew ?_))); (case side4 => exact HC0_6.out); rintro e w11 ⟨rfl, hb⟩; refine ⟨_, rfl, ?_⟩; replace BK617 := bb BK617 hb; replace HB := bs HB hb; (try clear hb)))
    go_ret
    exact ⟨by first | rfl | (simp [errW_none, errW_some] <;> rfl) | (simp [*, errW_none, errW_some] <;> rfl), bf HB⟩

end Go.Proofs.YtpdmiookdmncpaaDoor.X
