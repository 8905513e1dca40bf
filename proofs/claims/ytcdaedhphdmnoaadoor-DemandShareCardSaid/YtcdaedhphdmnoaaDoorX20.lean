/- Walks: each '.calls' says that the Go function comes to what its Lean function tells. Conditions: as each theorem's head says. -/
import Derived.Test.YtcdaedhphdmnoaaDoorXD
import Derived.Test.YtcdaedhphdmnoaaDoorX0
import Derived.Test.YtcdaedhphdmnoaaDoorX1
import Derived.Test.YtcdaedhphdmnoaaDoorX10
import Derived.Test.YtcdaedhphdmnoaaDoorX14
import Derived.Test.YtcdaedhphdmnoaaDoorX19
namespace Go.Proofs.YtcdaedhphdmnoaaDoor.X
open Go.RowKit Go.Proofs.YtcdaedhphdmnoaaDoorW.PrintWords Go.Proofs.YtcdaedhphdmnoaaDoorW.PrintLast Go.Proofs.YtcdaedhphdmnoaaDoorW.PrintMore
attribute [local go_sem] max2_int min2_int max_two min_two max_three min_three max_four min_four   -- for this text's walks alone
set_option linter.unusedVariables false
set_option maxHeartbeats 8000000
set_option maxRecDepth 100000
set_option linter.unusedSimpArgs false

attribute [local go_sem high] eqA23
theorem gen1_ {P c K a} {W : World} {φ : World → Prop} (hφ : φ W) (h : ∀ w' : World, φ w' → Code.wp P c K a w') : Code.wp P c K a W := h W hφ

/-! ### carrefourlaw09_DemandShare: function 4 -/
theorem carrefourlaw09_DemandShare.calls (k : Nat) (a0_0 : ByteArray) (a0_1 : Int) (a0_2 : Int) (a0_3 : Int) (a0_4 : Int) (a0_5 : Int) (a0_6 : Int) (a0_7 : Int) (a0_8 : Int) (a0_9 : Int) (a0_10 : Int) (a1_0 : Int) (a1_1 : Int) (r : Bool) (w : World) (h : carrefourlaw09_DemandShare.f k a0_0 a0_1 a0_2 a0_3 a0_4 a0_5 a0_6 a0_7 a0_8 a0_9 a0_10 a1_0 a1_1 = some r) (hT : TabOK w) :
    Calls Tryd.prog 4 #[.agg #[.string a0_0, .int .i64 a0_1, .int .i64 a0_2, .int .i64 a0_3, .int .i64 a0_4, .int .i64 a0_5, .int .i64 a0_6, .int .i64 a0_7, .int .i64 a0_8, .int .i64 a0_9, .int .i64 a0_10], .agg #[.int .i64 a1_0, .int .i64 a1_1]] w fun e w' => e = .returned (.bool r) ∧ Below w.heap.size w w' := by
  have GT := Aside0.mk hT
  clear hT
  have hu25 := Tryd.underlying25
  have hu23 := Tryd.underlying23
  have HB := Aside0.mk (Below.refl w.heap.size w)
  have H : ((demand_Ratio.f k a0_0 a0_1 a0_2 a0_3 a0_4 a0_5 a0_6 a0_7 a0_8 a0_9 a0_10 a1_0 a1_1).bind fun bt562 => (if a0_1 < 0 then (carrefourlaw09_DemandShare.j0 k bt562.2.2 true a0_0 a0_1 a0_2 a0_3 a0_4 a0_5 a0_6 a0_7 a0_8 a0_9 a0_10 a1_0 a1_1 bt562.1 bt562.2.1) else (carrefourlaw09_DemandShare.j0 k bt562.2.2 (decide (a0_1 > 1000000000)) a0_0 a0_1 a0_2 a0_3 a0_4 a0_5 a0_6 a0_7 a0_8 a0_9 a0_10 a1_0 a1_1 bt562.1 bt562.2.1))) = some r := h
  clear h
  replace H := bi_ H; obtain ⟨⟨t562, t563, t564⟩, A3, H⟩ := H
  (try dsimp only at H)
  have HC4 := Aside0.mk H
  clear H
  go_enter Tryd.func4, Tryd.ntmps4
  go_upto_region 2 with (first | ((with_reducible refine gd 2 rfl ?_); refine bx_ 2 25 #[.string a0_0, .int .i64 a0_1, .int .i64 a0_2, .int .i64 a0_3, .int .i64 a0_4, .int .i64 a0_5, .int .i64 a0_6, .int .i64 a0_7, .int .i64 a0_8, .int .i64 a0_9, .int .i64 a0_10] rfl rfl ?_; intro gb560 hg w5 BK560 hb; have GE560 := bz HB hg; replace HB := bs HB hb; clear hb hg) | ((with_reducible refine gd 3 rfl ?_); refine bx_ 3 23 #[.int .i64 a1_0, .int .i64 a1_1] rfl rfl ?_; intro gb561 hg w6 BK561 hb; have GE561 := bz HB hg; have ⟨NB560_561, NB561_560⟩ := nb BK560 hg; replace BK560 := bb BK560 hb; replace HB := bs HB hb; clear hb hg; have hnb7 := nn NB560_561; have hcz8 := X.k11 BK560; have hcz9 := X.k2 BK561) | ((with_reducible refine gc 6 rfl ?_); refine gm_ (some 15) rfl rfl Tryd.func6 (demand_Ratio.calls _ _ _ _ _ _ _ _ _ _ _ _ _ _ _ _ _ _ A3.out (tt GT)) ag ?_; intro w10 hb; replace BK560 := bb BK560 hb; replace BK561 := bb BK561 hb; replace HB := bs HB hb; (try clear hb)) | ((with_reducible refine gd 5 rfl ?_); refine bx_ 5 23 #[.int .i64 0, .int .i64 0] rfl rfl ?_; intro gb565 hg w11 BK565 hb; have GE565 := bz HB hg; have ⟨NB560_565, NB565_560⟩ := nb BK560 hg; have ⟨NB561_565, NB565_561⟩ := nb BK561 hg; replace BK560 := bb BK560 hb; replace BK561 := bb BK561 hb; replace HB := bs HB hb; clear hb hg; have hnb12 := nn NB565_560; have hnb13 := nn NB565_561; have hcz14 := X.k2 BK565))
  (try simp only [Act.put, si, s0, s1])
  go_cut [25] (fun v25 wc => ∃ (kq : Nat) (x25_3 : Bool), v25 = .bool x25_3 ∧ Aside0 (carrefourlaw09_DemandShare.j0 kq t564 x25_3 a0_0 a0_1 a0_2 a0_3 a0_4 a0_5 a0_6 a0_7 a0_8 a0_9 a0_10 a1_0 a1_1 t562 t563 = some r) ∧ Aside0 (kq ≤ k) ∧ Aside0 (wc.heap[gb560]? = some (.cells #[.string a0_0, .int .i64 a0_1, .int .i64 a0_2, .int .i64 a0_3, .int .i64 a0_4, .int .i64 a0_5, .int .i64 a0_6, .int .i64 a0_7, .int .i64 a0_8, .int .i64 a0_9, .int .i64 a0_10] 25 (0, 0))) ∧ Aside0 (wc.heap[gb561]? = some (.cells #[.int .i64 a1_0, .int .i64 a1_1] 23 (0, 0))) ∧ Aside0 (wc.heap[gb565]? = some (.cells #[.int .i64 t562, .int .i64 t563] 23 (0, 0))) ∧ Aside0 (Below w.heap.size w wc))
  case first =>
    have H := HC4.out
    clear HC4
    by_cases c15 : a0_1 < 0
    · rw [if_pos c15] at H
      have c15b0 : decide (a0_1 < 0) = true := decide_eq_true c15
      clear c15
      (first | rw [c15b0] | (simp only [i64_w, i32_w]; rw [c15b0]) | skip)
      have H' := Aside0.mk H
      clear H
      have hnb16 := nn NB560_561
      have hnb17 := nn NB560_565
      have hcz18 := X.k11 BK560
      go_wp2
      go_meet
      case rel => exact ⟨_, (true), (aq), H', ⟨by first | omega | exact Nat.le_refl _⟩, bu_ BK560, bu_ BK561, bq_ BK565, ⟨bf HB⟩⟩
    · rw [if_neg c15] at H
      have c15b0 : decide (a0_1 < 0) = false := decide_eq_false c15
      clear c15
      (first | rw [c15b0] | (simp only [i64_w, i32_w]; rw [c15b0]) | skip)
      have H' := Aside0.mk H
      clear H
      have hnb19 := nn NB560_561
      have hnb20 := nn NB560_565
      have hcz21 := X.k11 BK560
      go_wp2
      go_meet
      case rel => exact ⟨_, (decide (a0_1 > 1000000000)), (aq), H', ⟨by first | omega | exact Nat.le_refl _⟩, bu_ BK560, bu_ BK561, bq_ BK565, ⟨bf HB⟩⟩
  case rest =>
    clear HC4
    try clear c1
    try clear c2
    try clear p2
    try clear c4
    try clear c6
    try clear c7
    try clear c12
    try clear c13
    try clear c15
    try clear c15b0
    try clear c16
    try clear c17
    try clear c19
    try clear c20
    try clear hcz14
    try clear hcz18
    try clear hcz21
    try clear hcz8
    try clear hcz9
    obtain ⟨kq, x25_3, rfl, HA, HJ3, BK560, BK561, BK565, HB⟩ := hcut
    cases kq with
    | zero => exact absurd HA.out (by simp [carrefourlaw09_DemandShare.j0])
    | succ kj3 =>
      have H := HA.out
      clear HA
      simp only [carrefourlaw09_DemandShare.j0] at H
      by_cases c22 : x25_3 = true
      · subst c22
        have H1 : ((carrefourlaw09_awake.f kj3).bind fun t566 => (some t566)) = some r := by rw [if_pos rfl] at H; exact H
        clear H
        have H := H1
        clear H1
        replace H := bi_ H; obtain ⟨t566, A23, H⟩ := H
        (try dsimp only at H)
        obtain rfl := Option.some.inj H
        go_wp2_with (first | ((with_reducible refine gc 5 rfl ?_); refine gm_ (some 26) rfl rfl Tryd.func5 (carrefourlaw09_awake.calls kj3 _ _ A23.out (tt GT)) ag ?_; intro w24 hb; replace BK560 := bb BK560 hb; replace BK561 := bb BK561 hb; replace BK565 := bb BK565 hb; replace HB := bs HB hb; (try clear hb)))
        go_ret
        exact ⟨ae, bf HB⟩
      · replace c22 := Bool.eq_false_iff.mpr c22
        subst c22
        have H1 : ((demand_Ratio.f kj3 a0_0 (wrap64 (2 * a0_1)) a0_2 a0_3 a0_4 a0_5 a0_6 a0_7 a0_8 a0_9 a0_10 a1_0 a1_1).bind fun bt568 => ((carrefourref02_Add.f kj3 t562 t563 t562 t563).bind fun bt572 => (if t564 = 0 then (if bt568.2.2 = 0 then (if bt572.2.2 = 0 then (if (bt568.1 == bt572.1 && (bt568.2.1 == bt572.2.1)) = true then ((carrefourlaw09_awake.f kj3).bind fun t576 => (some t576)) else (some false)) else (some false)) else ((carrefourlaw09_awake.f kj3).bind fun t577 => (some t577))) else ((carrefourlaw09_awake.f kj3).bind fun t578 => (some t578))))) = some r := by rw [if_neg (show ¬ (false = true) by decide)] at H; exact H
        clear H
        have H := H1
        clear H1
        replace H := bi_ H; obtain ⟨⟨t568, t569, t570⟩, A25, H⟩ := H
        (try dsimp only at H)
        replace H := bi_ H; obtain ⟨⟨t572, t573, t574⟩, A26, H⟩ := H
        (try dsimp only at H)
        have hnb32 := nn NB560_561
        have hnb33 := nn NB560_565
        have hcz34 := X.k11 BK560
        go_upto_region 6 with (first | ((with_reducible refine gd 7 rfl ?_); refine bx_ 7 25 #[.string (⟨#[]⟩ : ByteArray), .int .i64 0, .int .i64 0, .int .i64 0, .int .i64 0, .int .i64 0, .int .i64 0, .int .i64 0, .int .i64 0, .int .i64 0, .int .i64 0] rfl rfl ?_; intro gb567 hg w35 BK567 hb; have GE567 := bz HB hg; have ⟨NB560_567, NB567_560⟩ := nb BK560 hg; have ⟨NB561_567, NB567_561⟩ := nb BK561 hg; have ⟨NB565_567, NB567_565⟩ := nb BK565 hg; replace BK560 := bb BK560 hb; replace BK561 := bb BK561 hb; replace BK565 := bb BK565 hb; replace HB := bs HB hb; clear hb hg; have hnb36 := nn NB567_560; have hnb37 := nn NB567_561; have hnb38 := nn NB567_565; have hcz39 := X.k11 BK567; have hcz40 := X.k11 BK560; have hnb41 := nn NB561_565; have hcz42 := X.k2 BK561))
        refine gen1_ (φ := fun w' => Aside0 (w'.heap[gb567]? = some (.cells #[.string a0_0, .int .i64 (wrap64 (2 * a0_1)), .int .i64 a0_2, .int .i64 a0_3, .int .i64 a0_4, .int .i64 a0_5, .int .i64 a0_6, .int .i64 a0_7, .int .i64 a0_8, .int .i64 a0_9, .int .i64 a0_10] 25 (0, 0))) ∧ Aside0 (w'.heap[gb560]? = some (.cells #[.string a0_0, .int .i64 a0_1, .int .i64 a0_2, .int .i64 a0_3, .int .i64 a0_4, .int .i64 a0_5, .int .i64 a0_6, .int .i64 a0_7, .int .i64 a0_8, .int .i64 a0_9, .int .i64 a0_10] 25 (0, 0))) ∧ Aside0 (w'.heap[gb561]? = some (.cells #[.int .i64 a1_0, .int .i64 a1_1] 23 (0, 0))) ∧ Aside0 (w'.heap[gb565]? = some (.cells #[.int .i64 t562, .int .i64 t563] 23 (0, 0))) ∧ Aside0 (Below w.heap.size w w')) ⟨bq_ BK567 (e := by simp), bu_ BK560, bu_ BK561, bu_ BK565, ⟨bf HB⟩⟩ ?_
        clear hcz39 hcz40 hcz42 hcz34 BK567 BK560 BK561 BK565 HB
        rintro w6_ ⟨BK567, BK560, BK561, BK565, HB⟩
        have hcz39 := X.k11 BK567
        have hcz40 := X.k11 BK560
        have hcz42 := X.k2 BK561
        have hcz43 := X.k2 BK565
        go_upto_region 8 with (first | ((with_reducible refine gc 6 rfl ?_); refine gm_ (some 35) rfl rfl Tryd.func6 (demand_Ratio.calls kj3 _ (wrap64 (2 * a0_1)) _ _ _ _ _ _ _ _ _ _ _ _ _ _ _ A25.out (tt GT)) ag ?_; intro w43 hb; replace BK560 := bb BK560 hb; replace BK561 := bb BK561 hb; replace BK565 := bb BK565 hb; replace BK567 := bb BK567 hb; replace HB := bs HB hb; (try clear hb)) | ((with_reducible refine gd 8 rfl ?_); refine bx_ 8 23 #[.int .i64 0, .int .i64 0] rfl rfl ?_; intro gb571 hg w44 BK571 hb; have GE571 := bz HB hg; have ⟨NB560_571, NB571_560⟩ := nb BK560 hg; have ⟨NB561_571, NB571_561⟩ := nb BK561 hg; have ⟨NB565_571, NB571_565⟩ := nb BK565 hg; have ⟨NB567_571, NB571_567⟩ := nb BK567 hg; replace BK560 := bb BK560 hb; replace BK561 := bb BK561 hb; replace BK565 := bb BK565 hb; replace BK567 := bb BK567 hb; replace HB := bs HB hb; clear hb hg; have hnb45 := nn NB571_560; have hnb46 := nn NB571_561; have hnb47 := nn NB571_565; have hnb48 := nn NB571_567; have hcz49 := X.k2 BK571; have hcz50 := X.k2 BK565) | ((with_reducible refine gc 8 rfl ?_); refine gm_ (some 41) rfl rfl Tryd.func8 (carrefourref02_Add.calls kj3 _ _ _ _ _ _ _ _ A26.out) ag ?_; intro w51 hb; replace BK560 := bb BK560 hb; replace BK561 := bb BK561 hb; replace BK565 := bb BK565 hb; replace BK567 := bb BK567 hb; replace BK571 := bp_ #[.int .i64 t568, .int .i64 t569] BK571 hb; replace HB := bs HB hb; (try clear hb)) | ((with_reducible refine gd 10 rfl ?_); refine bx_ 10 23 #[.int .i64 0, .int .i64 0] rfl rfl ?_; intro gb575 hg w52 BK575 hb; have GE575 := bz HB hg; have ⟨NB560_575, NB575_560⟩ := nb BK560 hg; have ⟨NB561_575, NB575_561⟩ := nb BK561 hg; have ⟨NB565_575, NB575_565⟩ := nb BK565 hg; have ⟨NB567_575, NB575_567⟩ := nb BK567 hg; have ⟨NB571_575, NB575_571⟩ := nb BK571 hg; replace BK560 := bb BK560 hb; replace BK561 := bb BK561 hb; replace BK565 := bb BK565 hb; replace BK571 := bb BK571 hb; replace HB := bs HB hb; clear hb hg; have hnb53 := nn NB575_560; have hnb54 := nn NB575_561; have hnb55 := nn NB575_565; have hnb56 := nn NB575_567; have hnb57 := nn NB575_571; have hcz58 := X.k2 BK575; have hcz59 := X.k2 BK571))
        by_cases c27 : t564 = 0
        · rw [if_pos c27] at H
          have c27b0 : (t564 == 0) = true := beq_iff_eq.mpr c27
          have c27b1 : (t564 != 0) = false := bne_eq_false_iff_eq.mpr c27
          clear c27
          by_cases c28 : t570 = 0
          · rw [if_pos c28] at H
            have c28b0 : (t570 == 0) = true := beq_iff_eq.mpr c28
            have c28b1 : (t570 != 0) = false := bne_eq_false_iff_eq.mpr c28
            clear c28
            by_cases c29 : t574 = 0
            · rw [if_pos c29] at H
              have c29b0 : (t574 == 0) = true := beq_iff_eq.mpr c29
              have c29b1 : (t574 != 0) = false := bne_eq_false_iff_eq.mpr c29
              clear c29
              by_cases c30 : (t568 == t572 && (t569 == t573)) = true
              · rw [if_pos c30] at H
                have c30b0 : (t568 == t572 && (t569 == t573)) = true := c30
                (try (have c30b1 : decide (t568 = t572 && (t569 == t573)) = true := by simpa using c30))
                (try (have c30b2 : (t568 == t572 && (t569 == t573)) = true := by simpa using c30))
                clear c30
                replace H := bi_ H; obtain ⟨t576, A31, H⟩ := H
                (try dsimp only at H)
                obtain rfl := Option.some.inj H
                have hnb32 := nn NB560_561
                have hnb33 := nn NB560_565
                have hcz34 := X.k11 BK560
                go_wp2_with (first | (go_at_call 5; (with_reducible refine (carrefourlaw09_awake.calls kj3 _ _ A31.out (tt GT)).mono ?_); rintro e w60 ⟨rfl, hb⟩; replace BK560 := bb BK560 hb; replace BK561 := bb BK561 hb; replace BK565 := bb BK565 hb; replace BK575 := bp_ #[.int .i64 t572, .int .i64 t573] BK575 hb; replace HB := bs HB hb; (try clear hb)))
                go_ret
                exact ⟨ae, bf HB⟩
              · rw [if_neg c30] at H
                have c30b0 : (t568 == t572 && (t569 == t573)) = false := by simpa using c30
                (try (have c30b1 : decide (t568 = t572 && (t569 == t573)) = false := by simpa using c30))
                (try (have c30b2 : (t568 == t572 && (t569 == t573)) = false := by simpa using c30))
                (try (have c30b3 : ¬ (t568 = t572 && (t569 == t573)) := by simpa using c30))
                clear c30
                obtain rfl := Option.some.inj H
                have hnb61 := nn NB560_561
                have hnb62 := nn NB560_565
                have hcz63 := X.k11 BK560
                go_wp2
                go_ret
                exact ⟨ae, bf HB⟩
            · rw [if_neg c29] at H
              have c29b0 : (t574 == 0) = false := beq_eq_false_iff_ne.mpr c29
              have c29b1 : (t574 != 0) = true := bne_iff_ne.mpr c29
              obtain rfl := Option.some.inj H
              have hnb89 := nn NB560_561
              have hnb90 := nn NB560_565
              have hcz91 := X.k11 BK560
              go_wp2
              go_ret
              exact ⟨ae, bf HB⟩
          · rw [if_neg c28] at H
            have c28b0 : (t570 == 0) = false := beq_eq_false_iff_ne.mpr c28
            have c28b1 : (t570 != 0) = true := bne_iff_ne.mpr c28
            replace H := bi_ H; obtain ⟨t577, A116, H⟩ := H
            (try dsimp only at H)
            obtain rfl := Option.some.inj H
            have hnb117 := nn NB560_561
            have hnb118 := nn NB560_565
            have hcz119 := X.k11 BK560
            go_wp2_with (first | (go_at_call 5; (with_reducible refine (carrefourlaw09_awake.calls kj3 _ _ A116.out (tt GT)).mono ?_); rintro e w144 ⟨rfl, hb⟩; replace BK560 := bb BK560 hb; replace BK561 := bb BK561 hb; replace BK565 := bb BK565 hb; replace BK575 := bp_ #[.int .i64 t572, .int .i64 t573] BK575 hb; replace HB := bs HB hb; (try clear hb)))
            go_ret
            exact ⟨ae, bf HB⟩
        · rw [if_neg c27] at H
          have c27b0 : (t564 == 0) = false := beq_eq_false_iff_ne.mpr c27
          have c27b1 : (t564 != 0) = true := bne_iff_ne.mpr c27
          replace H := bi_ H; obtain ⟨t578, A145, H⟩ := H
          (try dsimp only at H)
          obtain rfl := Option.some.inj H
          have hnb146 := nn NB560_561
          have hnb147 := nn NB560_565
          have hcz148 := X.k11 BK560
          go_wp2_with (first | (go_at_call 5; (with_reducible refine (carrefourlaw09_awake.calls kj3 _ _ A145.out (tt GT)).mono ?_); rintro e w173 ⟨rfl, hb⟩; replace BK575 := bp_ #[.int .i64 t572, .int .i64 t573] BK575 hb; replace HB := bs HB hb; (try clear hb)))
          go_ret
          exact ⟨ae, bf HB⟩

end Go.Proofs.YtcdaedhphdmnoaaDoor.X
