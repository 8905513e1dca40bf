/- Walks: each '.calls' says that the Go function comes to what its Lean function tells. Conditions: as each theorem's head says. -/
import Derived.Test.YtjgnaccamakpdaaDoorXD
import Derived.Test.YtjgnaccamakpdaaDoorX0
import Derived.Test.YtjgnaccamakpdaaDoorX3
import Derived.Test.YtjgnaccamakpdaaDoorX8
import Derived.Test.YtjgnaccamakpdaaDoorX17
namespace Go.Proofs.YtjgnaccamakpdaaDoor.X
open Go.RowKit Go.Proofs.YtjgnaccamakpdaaDoorW.PrintWords Go.Proofs.YtjgnaccamakpdaaDoorW.PrintLast Go.Proofs.YtjgnaccamakpdaaDoorW.PrintMore
attribute [local go_sem] max2_int min2_int max_two min_two max_three min_three max_four min_four   -- for this text's walks alone
set_option linter.unusedVariables false
set_option maxHeartbeats 8000000
set_option maxRecDepth 100000
set_option linter.unusedSimpArgs false

attribute [local go_sem high] eqA85
/-! ### whole_product: function 81 -/
theorem whole_product.calls (a0 : Int) (a1 : Int) (r1 : Int) (r2 : Int) (w : World) (h : whole_product.f a0 a1 = some (r1, r2)) :
    Calls Tryd.prog 81 #[.int .i64 a0, .int .i64 a1] w fun e w' => e = .returned (.agg #[.int .u64 r1, .int .u64 r2]) ∧ Below w.heap.size w w' := by
  have hu85 := Tryd.underlying85
  have HB := Aside0.mk (Below.refl w.heap.size w)
  have H : ((whole_size.f a0).bind fun t519 => ((whole_size.f a1).bind fun t520 => ((bits_Mul64.f t519 t520).bind fun bt521 => (some (bt521.1, bt521.2))))) = some (r1, r2) := h
  clear h
  replace H := bi_ H; obtain ⟨t519, A3, H⟩ := H
  (try dsimp only at H)
  replace H := bi_ H; obtain ⟨t520, A4, H⟩ := H
  (try dsimp only at H)
  replace H := bi_ H; obtain ⟨⟨t521, t522⟩, A5, H⟩ := H
  (try dsimp only at H)
  simp only [Option.some.injEq, Prod.mk.injEq] at H
  obtain ⟨rfl, rfl⟩ := H
  go_enter Tryd.func81, Tryd.ntmps81
  go_wp2_with (first | ((with_reducible refine gd 4 rfl ?_); refine bx_ 4 85 #[.int .u64 0, .int .u64 0] rfl rfl ?_; intro gb518 hg w6 BK518 hb; have GE518 := bz HB hg; replace HB := bs HB hb; clear hb hg) | ((with_reducible refine gc 78 rfl ?_); refine gm_ (some 9) rfl rfl Tryd.func78 (whole_size.calls _ _ _ A3.out) ag ?_; rintro w' ⟨nd, rfl⟩; (try (rw [drewN_self w6]; generalize hq_ : World.drewN w6 _ = w6; have n0_ : Aside0 (w6.heap[gb518]? = some (.cells #[.int .u64 0, .int .u64 0] 85 (0, 0))) := ⟨by rw [← hq_]; exact (bx BK518)⟩; have n1_ : Aside0 (Below w.heap.size w w6) := ⟨by rw [← hq_]; exact (bf HB)⟩; clear BK518 HB hq_; have BK518 := n0_; have HB := n1_; clear n0_ n1_))) | ((with_reducible refine gc 78 rfl ?_); refine gm_ (some 11) rfl rfl Tryd.func78 (whole_size.calls _ _ _ A4.out) ag ?_; rintro w' ⟨nd, rfl⟩; (try (rw [drewN_self w6]; generalize hq_ : World.drewN w6 _ = w6; have n0_ : Aside0 (w6.heap[gb518]? = some (.cells #[.int .u64 0, .int .u64 0] 85 (0, 0))) := ⟨by rw [← hq_]; exact (bx BK518)⟩; have n1_ : Aside0 (Below w.heap.size w w6) := ⟨by rw [← hq_]; exact (bf HB)⟩; clear BK518 HB hq_; have BK518 := n0_; have HB := n1_; clear n0_ n1_))) | ((with_reducible refine gc 95 rfl ?_); refine gm_ (some 12) rfl rfl Tryd.func95 (bits_Mul64.calls _ _ _ _ _ A5.out) ag ?_; rintro w' ⟨nd, rfl⟩; (try (rw [drewN_self w6]; generalize hq_ : World.drewN w6 _ = w6; have n0_ : Aside0 (w6.heap[gb518]? = some (.cells #[.int .u64 0, .int .u64 0] 85 (0, 0))) := ⟨by rw [← hq_]; exact (bx BK518)⟩; have n1_ : Aside0 (Below w.heap.size w w6) := ⟨by rw [← hq_]; exact (bf HB)⟩; clear BK518 HB hq_; have BK518 := n0_; have HB := n1_; clear n0_ n1_)); have hcz7 := k2 BK518))
  refine bodyPost_ret (results_cell_row rfl _ _ gb518 85 #[.int .u64 t521, .int .u64 t522] (0, 0) _ rfl (br_ BK518) Tryd.underlying85 rfl (by kernel_rfl)) rfl ?_
  exact ⟨ae, bf HB⟩

/-! ### whole_double_less: function 82 -/
theorem whole_double_less.calls (a0_0 : Int) (a0_1 : Int) (a1_0 : Int) (a1_1 : Int) (r : Bool) (w : World) (h : whole_double_less.f a0_0 a0_1 a1_0 a1_1 = some r) :
    Calls Tryd.prog 82 #[.agg #[.int .u64 a0_0, .int .u64 a0_1], .agg #[.int .u64 a1_0, .int .u64 a1_1]] w fun e w' => e = .returned (.bool r) ∧ Below w.heap.size w w' := by
  have hu85 := Tryd.underlying85
  have HB := Aside0.mk (Below.refl w.heap.size w)
  have H : (if a0_0 < a1_0 then (some true) else (if a0_0 = a1_0 then (some (decide (a0_1 < a1_1))) else (some false))) = some r := h
  clear h
  by_cases c3 : a0_0 < a1_0
  · rw [if_pos c3] at H
    have c3b0 : decide (a0_0 < a1_0) = true := decide_eq_true c3
    clear c3
    obtain rfl := Option.some.inj H
    go_enter Tryd.func82, Tryd.ntmps82
    go_wp2_with (first | ((with_reducible refine gd 2 rfl ?_); refine bx_ 2 85 #[.int .u64 a0_0, .int .u64 a0_1] rfl rfl ?_; intro gb523 hg w4 BK523 hb; have GE523 := bz HB hg; replace HB := bs HB hb; clear hb hg) | ((with_reducible refine gd 3 rfl ?_); refine bx_ 3 85 #[.int .u64 a1_0, .int .u64 a1_1] rfl rfl ?_; intro gb524 hg w5 BK524 hb; have GE524 := bz HB hg; have ⟨NB523_524, NB524_523⟩ := nb BK523 hg; replace BK523 := bb BK523 hb; replace HB := bs HB hb; clear hb hg; have hnb6 := nn NB523_524; have hcz7 := k2 BK523; have hcz8 := k2 BK524))
    go_ret
    exact ⟨ae, bf HB⟩
  · rw [if_neg c3] at H
    have c3b0 : decide (a0_0 < a1_0) = false := decide_eq_false c3
    clear c3
    by_cases c9 : a0_0 = a1_0
    · rw [if_pos c9] at H
      have c9b0 : (a0_0 == a1_0) = true := beq_iff_eq.mpr c9
      have c9b1 : (a0_0 != a1_0) = false := bne_eq_false_iff_eq.mpr c9
      clear c9
      obtain rfl := Option.some.inj H
      go_enter Tryd.func82, Tryd.ntmps82
      go_wp2_with (first | ((with_reducible refine gd 2 rfl ?_); refine bx_ 2 85 #[.int .u64 a0_0, .int .u64 a0_1] rfl rfl ?_; intro gb523 hg w10 BK523 hb; have GE523 := bz HB hg; replace HB := bs HB hb; clear hb hg) | ((with_reducible refine gd 3 rfl ?_); refine bx_ 3 85 #[.int .u64 a1_0, .int .u64 a1_1] rfl rfl ?_; intro gb524 hg w11 BK524 hb; have GE524 := bz HB hg; have ⟨NB523_524, NB524_523⟩ := nb BK523 hg; replace BK523 := bb BK523 hb; replace HB := bs HB hb; clear hb hg; have hnb12 := nn NB523_524; have hcz13 := k2 BK523; have hcz14 := k2 BK524))
      go_ret
      exact ⟨ae, bf HB⟩
    · rw [if_neg c9] at H
      have c9b0 : (a0_0 == a1_0) = false := beq_eq_false_iff_ne.mpr c9
      have c9b1 : (a0_0 != a1_0) = true := bne_iff_ne.mpr c9
      obtain rfl := Option.some.inj H
      go_enter Tryd.func82, Tryd.ntmps82
      go_wp2_with (first | ((with_reducible refine gd 2 rfl ?_); refine bx_ 2 85 #[.int .u64 a0_0, .int .u64 a0_1] rfl rfl ?_; intro gb523 hg w15 BK523 hb; have GE523 := bz HB hg; replace HB := bs HB hb; clear hb hg) | ((with_reducible refine gd 3 rfl ?_); refine bx_ 3 85 #[.int .u64 a1_0, .int .u64 a1_1] rfl rfl ?_; intro gb524 hg w16 BK524 hb; have GE524 := bz HB hg; have ⟨NB523_524, NB524_523⟩ := nb BK523 hg; replace BK523 := bb BK523 hb; replace HB := bs HB hb; clear hb hg; have hnb17 := nn NB523_524; have hcz18 := k2 BK523; have hcz19 := k2 BK524))
      go_ret
      exact ⟨ae, bf HB⟩

/-! ### whole_Compare: function 58 -/
theorem whole_Compare.calls (k : Nat) (a0 : Int) (a1 : Int) (a2 : Int) (a3 : Int) (r : Int) (w : World) (h : whole_Compare.f k a0 a1 a2 a3 = some r) :
    Calls Tryd.prog 58 #[.int .i64 a0, .int .i64 a1, .int .i64 a2, .int .i64 a3] w fun e w' => e = .returned (.int .i64 r) ∧ Below w.heap.size w w' := by
  have hu85 := Tryd.underlying85
  have HB := Aside0.mk (Below.refl w.heap.size w)
  have H : ((whole_sign.f k a0 a1).bind fun t525 => ((whole_sign.f k a2 a3).bind fun t526 => ((whole_product.f a0 a1).bind fun bt527 => ((whole_product.f a2 a3).bind fun bt529 => (if t525 = t526 then (if (bt527.1 == bt529.1 && (bt527.2 == bt529.2)) = true then (some 0) else ((whole_double_less.f bt527.1 bt527.2 bt529.1 bt529.2).bind fun t533 => (if t533 = true then (some (wrap64 (-t525))) else (some t525)))) else (some (mx (-1) (mn 1 (wrap64 (t525 - t526)))))))))) = some r := h
  clear h
  replace H := bi_ H; obtain ⟨t525, A5, H⟩ := H
  (try dsimp only at H)
  replace H := bi_ H; obtain ⟨t526, A6, H⟩ := H
  (try dsimp only at H)
  replace H := bi_ H; obtain ⟨⟨t527, t528⟩, A7, H⟩ := H
  (try dsimp only at H)
  replace H := bi_ H; obtain ⟨⟨t529, t530⟩, A8, H⟩ := H
  (try dsimp only at H)
  by_cases c9 : t525 = t526
  · rw [if_pos c9] at H
    have c9b0 : (t525 == t526) = true := beq_iff_eq.mpr c9
    have c9b1 : (t525 != t526) = false := bne_eq_false_iff_eq.mpr c9
    clear c9
    by_cases c10 : (t527 == t529 && (t528 == t530)) = true
    · rw [if_pos c10] at H
      have c10b0 : (t527 == t529 && (t528 == t530)) = true := c10
      (try (have c10b1 : decide (t527 = t529 && (t528 == t530)) = true := by simpa using c10))
      (try (have c10b2 : (t527 == t529 && (t528 == t530)) = true := by simpa using c10))
      clear c10
      obtain rfl := Option.some.inj H
      go_enter Tryd.func58, Tryd.ntmps58
      go_wp2_with (first | ((with_reducible refine gc 80 rfl ?_); refine gm_ (some 15) rfl rfl Tryd.func80 (whole_sign.calls _ _ _ _ _ A5.out) ag ?_; rintro w' ⟨nd, rfl⟩) | ((with_reducible refine gc 80 rfl ?_); refine gm_ (some 18) rfl rfl Tryd.func80 (whole_sign.calls _ _ _ _ _ A6.out) ag ?_; rintro w' ⟨nd, rfl⟩) | ((with_reducible refine gc 81 rfl ?_); refine gm_ (some 21) rfl rfl Tryd.func81 (whole_product.calls _ _ _ _ _ A7.out) ag ?_; intro w11 hb; replace HB := bs HB hb; (try clear hb)) | ((with_reducible refine gc 81 rfl ?_); refine gm_ (some 24) rfl rfl Tryd.func81 (whole_product.calls _ _ _ _ _ A8.out) ag ?_; intro w12 hb; replace HB := bs HB hb; (try clear hb)) | ((with_reducible refine gd 11 rfl ?_); refine bx_ 11 85 #[.int .u64 0, .int .u64 0] rfl rfl ?_; intro gb531 hg w13 BK531 hb; have GE531 := bz HB hg; replace HB := bs HB hb; clear hb hg) | ((with_reducible refine gd 12 rfl ?_); refine bx_ 12 85 #[.int .u64 0, .int .u64 0] rfl rfl ?_; intro gb532 hg w14 BK532 hb; have GE532 := bz HB hg; have ⟨NB531_532, NB532_531⟩ := nb BK531 hg; replace BK531 := bb BK531 hb; replace HB := bs HB hb; clear hb hg; have hnb15 := nn NB531_532; have hcz16 := k2 BK531; have hcz17 := k2 BK532))
      go_ret
      exact ⟨ae, bf HB⟩
    · rw [if_neg c10] at H
      have c10b0 : (t527 == t529 && (t528 == t530)) = false := by simpa using c10
      (try (have c10b1 : decide (t527 = t529 && (t528 == t530)) = false := by simpa using c10))
      (try (have c10b2 : (t527 == t529 && (t528 == t530)) = false := by simpa using c10))
      (try (have c10b3 : ¬ (t527 = t529 && (t528 == t530)) := by simpa using c10))
      clear c10
      replace H := bi_ H; obtain ⟨t533, A18, H⟩ := H
      (try dsimp only at H)
      by_cases c19 : t533 = true
      · subst c19
        have H1 : (some (wrap64 (-t525))) = some r := by rw [if_pos rfl] at H; exact H
        clear H
        have H := H1
        clear H1
        obtain rfl := Option.some.inj H
        go_enter Tryd.func58, Tryd.ntmps58
        go_wp2_with (first | ((with_reducible refine gc 80 rfl ?_); refine gm_ (some 15) rfl rfl Tryd.func80 (whole_sign.calls _ _ _ _ _ A5.out) ag ?_; rintro w' ⟨nd, rfl⟩) | ((with_reducible refine gc 80 rfl ?_); refine gm_ (some 18) rfl rfl Tryd.func80 (whole_sign.calls _ _ _ _ _ A6.out) ag ?_; rintro w' ⟨nd, rfl⟩) | ((with_reducible refine gc 81 rfl ?_); refine gm_ (some 21) rfl rfl Tryd.func81 (whole_product.calls _ _ _ _ _ A7.out) ag ?_; intro w20 hb; replace HB := bs HB hb; (try clear hb)) | ((with_reducible refine gc 81 rfl ?_); refine gm_ (some 24) rfl rfl Tryd.func81 (whole_product.calls _ _ _ _ _ A8.out) ag ?_; intro w21 hb; replace HB := bs HB hb; (try clear hb)) | ((with_reducible refine gd 11 rfl ?_); refine bx_ 11 85 #[.int .u64 0, .int .u64 0] rfl rfl ?_; intro gb531 hg w22 BK531 hb; have GE531 := bz HB hg; replace HB := bs HB hb; clear hb hg) | ((with_reducible refine gd 12 rfl ?_); refine bx_ 12 85 #[.int .u64 0, .int .u64 0] rfl rfl ?_; intro gb532 hg w23 BK532 hb; have GE532 := bz HB hg; have ⟨NB531_532, NB532_531⟩ := nb BK531 hg; replace BK531 := bb BK531 hb; replace HB := bs HB hb; clear hb hg; have hnb24 := nn NB531_532; have hcz25 := k2 BK531; have hcz26 := k2 BK532) | ((with_reducible refine gc 82 rfl ?_); refine gm_ (some 41) rfl rfl Tryd.func82 (whole_double_less.calls _ _ _ _ _ _ A18.out) ag ?_; intro w27 hb; replace BK531 := bp_ #[.int .u64 t527, .int .u64 t528] BK531 hb; replace BK532 := bp_ #[.int .u64 t529, .int .u64 t530] BK532 hb; replace HB := bs HB hb; (try clear hb)))
        go_ret
        exact ⟨ae, bf HB⟩
      · replace c19 := Bool.eq_false_iff.mpr c19
        subst c19
        have H1 : (some t525) = some r := by rw [if_neg (show ¬ (false = true) by decide)] at H; exact H
        clear H
        have H := H1
        clear H1
        obtain rfl := Option.some.inj H
        go_enter Tryd.func58, Tryd.ntmps58
        go_wp2_with (first | ((with_reducible refine gc 80 rfl ?_); refine gm_ (some 15) rfl rfl Tryd.func80 (whole_sign.calls _ _ _ _ _ A5.out) ag ?_; rintro w' ⟨nd, rfl⟩) | ((with_reducible refine gc 80 rfl ?_); refine gm_ (some 18) rfl rfl Tryd.func80 (whole_sign.calls _ _ _ _ _ A6.out) ag ?_; rintro w' ⟨nd, rfl⟩) | ((with_reducible refine gc 81 rfl ?_); refine gm_ (some 21) rfl rfl Tryd.func81 (whole_product.calls _ _ _ _ _ A7.out) ag ?_; intro w28 hb; replace HB := bs HB hb; (try clear hb)) | ((with_reducible refine gc 81 rfl ?_); refine gm_ (some 24) rfl rfl Tryd.func81 (whole_product.calls _ _ _ _ _ A8.out) ag ?_; intro w29 hb; replace HB := bs HB hb; (try clear hb)) | ((with_reducible refine gd 11 rfl ?_); refine bx_ 11 85 #[.int .u64 0, .int .u64 0] rfl rfl ?_; intro gb531 hg w30 BK531 hb; have GE531 := bz HB hg; replace HB := bs HB hb; clear hb hg) | ((with_reducible refine gd 12 rfl ?_); refine bx_ 12 85 #[.int .u64 0, .int .u64 0] rfl rfl ?_; intro gb532 hg w31 BK532 hb; have GE532 := bz HB hg; have ⟨NB531_532, NB532_531⟩ := nb BK531 hg; replace BK531 := bb BK531 hb; replace HB := bs HB hb; clear hb hg; have hnb32 := nn NB531_532; have hcz33 := k2 BK531; have hcz34 := k2 BK532) | ((with_reducible refine gc 82 rfl ?_); refine gm_ (some 41) rfl rfl Tryd.func82 (whole_double_less.calls _ _ _ _ _ _ A18.out) ag ?_; intro w35 hb; replace BK531 := bp_ #[.int .u64 t527, .int .u64 t528] BK531 hb; replace BK532 := bp_ #[.int .u64 t529, .int .u64 t530] BK532 hb; replace HB := bs HB hb; (try clear hb)))
        go_ret
        exact ⟨ae, bf HB⟩
  · rw [if_neg c9] at H
    have c9b0 : (t525 == t526) = false := beq_eq_false_iff_ne.mpr c9
    have c9b1 : (t525 != t526) = true := bne_iff_ne.mpr c9
    obtain ⟨ji36, hji36⟩ : ∃ j_ : Int, (mn 1 (wrap64 (t525 - t526))) = j_ := ⟨_, rfl⟩
    replace H : (some (mx (-1) (ji36))) = some r := by first | (rw [hji36] at H; exact H) | (simp only [hji36] at H ⊢; exact H)
    (try rw [hji36] at A5)
    (try rw [hji36] at A6)
    (try rw [hji36] at A7)
    (try rw [hji36] at A8)
    (try (have hji36h : ji36 ≤ 1 := by (rw [← hji36]; unfold mn; (repeat' split) <;> omega)))
    (try (have hji36g : ji36 ≤ 64 := by omega))
    have hji36_ : (if (wrap64 (t525 - t526)) < 1 then (wrap64 (t525 - t526)) else 1) = ji36 := hji36
    obtain ⟨ji37, hji37⟩ : ∃ j_ : Int, (mx (-1) (ji36)) = j_ := ⟨_, rfl⟩
    replace H : (some ji37) = some r := by first | (rw [hji37] at H; exact H) | (simp only [hji37] at H ⊢; exact H)
    (try rw [hji37] at A5)
    (try rw [hji37] at A6)
    (try rw [hji37] at A7)
    (try rw [hji37] at A8)
    have hji37_ : (if (-1) < (ji36) then (ji36) else (-1)) = ji37 := hji37
    obtain rfl := Option.some.inj H
    go_enter Tryd.func58, Tryd.ntmps58
    go_wp2_with (first | ((with_reducible refine gc 80 rfl ?_); refine gm_ (some 15) rfl rfl Tryd.func80 (whole_sign.calls _ _ _ _ _ A5.out) ag ?_; rintro w' ⟨nd, rfl⟩) | ((with_reducible refine gc 80 rfl ?_); refine gm_ (some 18) rfl rfl Tryd.func80 (whole_sign.calls _ _ _ _ _ A6.out) ag ?_; rintro w' ⟨nd, rfl⟩) | ((with_reducible refine gc 81 rfl ?_); refine gm_ (some 21) rfl rfl Tryd.func81 (whole_product.calls _ _ _ _ _ A7.out) ag ?_; intro w38 hb; replace HB := bs HB hb; (try clear hb)) | ((with_reducible refine gc 81 rfl ?_); refine gm_ (some 24) rfl rfl Tryd.func81 (whole_product.calls _ _ _ _ _ A8.out) ag ?_; intro w39 hb; replace HB := bs HB hb; (try clear hb)) | ((with_reducible refine gd 11 rfl ?_); refine bx_ 11 85 #[.int .u64 0, .int .u64 0] rfl rfl ?_; intro gb531 hg w40 BK531 hb; have GE531 := bz HB hg; replace HB := bs HB hb; clear hb hg) | ((with_reducible refine gd 12 rfl ?_); refine bx_ 12 85 #[.int .u64 0, .int .u64 0] rfl rfl ?_; intro gb532 hg w41 BK532 hb; have GE532 := bz HB hg; have ⟨NB531_532, NB532_531⟩ := nb BK531 hg; replace BK531 := bb BK531 hb; replace HB := bs HB hb; clear hb hg; have hnb42 := nn NB531_532; have hcz43 := k2 BK531; have hcz44 := k2 BK532))
    go_ret
    exact ⟨by first | rfl | (simp [errW_none, errW_some] <;> rfl) | (simp only [← hji36, ← hji37]; first | rfl | (simp [errW_none, errW_some] <;> rfl)) | (simp [*, errW_none, errW_some] <;> rfl), bf HB⟩

/-! ### frac_Cmp: function 25 -/
theorem frac_Cmp.calls (k : Nat) (a0_0 : Int) (a0_1 : Int) (a1_0 : Int) (a1_1 : Int) (r : Int) (w : World) (h : frac_Cmp.f k a0_0 a0_1 a1_0 a1_1 = some r) (hT : TabOK w) :
    Calls Tryd.prog 25 #[.agg #[.int .i64 a0_0, .int .i64 a0_1], .agg #[.int .i64 a1_0, .int .i64 a1_1]] w fun e w' => e = .returned (.int .i64 r) ∧ Below w.heap.size w w' := by
  have GT := Aside0.mk hT
  clear hT
  have hu23 := Tryd.underlying23
  have HB := Aside0.mk (Below.refl w.heap.size w)
  have H : ((frac_norm.f k a0_0 a0_1).bind fun bt536 => ((frac_norm.f k a1_0 a1_1).bind fun bt538 => ((whole_Compare.f k bt536.1 bt538.2 bt538.1 bt536.2).bind fun t540 => (some t540)))) = some r := h
  clear h
  replace H := bi_ H; obtain ⟨⟨t536, t537⟩, A3, H⟩ := H
  (try dsimp only at H)
  replace H := bi_ H; obtain ⟨⟨t538, t539⟩, A4, H⟩ := H
  (try dsimp only at H)
  replace H := bi_ H; obtain ⟨t540, A5, H⟩ := H
  (try dsimp only at H)
  obtain rfl := Option.some.inj H
  go_enter Tryd.func25, Tryd.ntmps25
  try go_wp2_with (first | ((with_reducible refine gd 2 rfl ?_); refine bx_ 2 23 #[.int .i64 a0_0, .int .i64 a0_1] rfl rfl ?_; intro gb534 hg w6 BK534 hb; have GE534 := bz HB hg; replace HB := bs HB hb; clear hb hg) | ((with_reducible refine gd 3 rfl ?_); refine bx_ 3 23 #[.int .i64 a1_0, .int .i64 a1_1] rfl rfl ?_; intro gb535 hg w7 BK535 hb; have GE535 := bz HB hg; have ⟨NB534_535, NB535_534⟩ := nb BK534 hg; replace BK534 := bb BK534 hb; replace HB := bs HB hb; clear hb hg))
  replace BK534 := Aside0.mk (blk_drew BK534.out)
  replace BK535 := Aside0.mk (blk_drew BK535.out)
  replace HB := Aside0.mk (below_drew1 HB.out)
  refine start_ (n := 6) (S := fun w' => c_ w' gb534 0 (.int .i64 a0_0) ∧ c_ w' gb534 1 (.int .i64 a0_1) ∧ c_ w' gb535 0 (.int .i64 a1_0) ∧ c_ w' gb535 1 (.int .i64 a1_1)) (ds := [4, 5]) (m_ 6 0) (by kernel_rfl) rfl rfl ⟨ct BK534 0, ct BK534 1, ct BK535 0, ct BK535 1⟩ (fun hHeld => ?_)
  generalize w7.drew = w8 at BK534 BK535 HB hHeld ⊢
  refine tk_ 0 (some 5) (m_ 6 1) rfl rfl (by kernel_rfl) hHeld ?_
  refine tk_ 2 (some 7) (m_ 6 5) rfl rfl (by kernel_rfl) hHeld ?_
  refine o1_ 1 (some 6) (m_ 6 7) rfl rfl (by kernel_rfl) (fun K hK => ?_)
  refine gs_ rfl Tryd.func56 (frac_norm.calls _ _ _ _ _ _ A3.out (tt GT)) ag ?_
  intro w9 hb
  replace BK534 := bb BK534 hb
  replace BK535 := bb BK535 hb
  replace HB := bs HB hb
  (try clear hb)
  refine hK.out _ _ ⟨ct BK534 0, ct BK534 1, ct BK535 0, ct BK535 1⟩ (fun hHeld => ?_)
  clear hK K
  refine nr_ (some 6) ?_
  refine o1_ 3 (some 8) (m_ 6 15) rfl rfl (by kernel_rfl) (fun K hK => ?_)
  refine gs_ rfl Tryd.func56 (frac_norm.calls _ _ _ _ _ _ A4.out (tt GT)) ag ?_
  intro w10 hb
  replace BK534 := bb BK534 hb
  replace BK535 := bb BK535 hb
  replace HB := bs HB hb
  (try clear hb)
  refine hK.out _ _ ⟨ct BK534 0, ct BK534 1, ct BK535 0, ct BK535 1⟩ (fun hHeld => ?_)
  clear hK K
  refine nr_ (some 8) ?_
  refine last_ (i := 4) (N := none) (m_ 6 31) rfl rfl (by kernel_rfl) (by decide) (fun K hK => ?_)
  have hs11 : c_ w10 gb534 0 (.int .i64 a0_0) := ct BK534 0
  have hfs11 := blk_frozen BK534.out 0
  have hns11_1 := nn NB535_534
  have hs12 : c_ w10 gb534 1 (.int .i64 a0_1) := ct BK534 1
  have hfs12 := blk_frozen BK534.out 1
  have hns12_1 := nn NB535_534
  refine skip_ (w1 := ?_) (by rfl) rfl ?_ ?_
  rotate_left
  · go_simp
    rfl
  refine hK.out _ _ ?_
  clear hK K
  refine last_ (i := 5) (N := none) (m_ 6 63) rfl rfl (by kernel_rfl) (by decide) (fun K hK => ?_)
  have hs13 : c_ w10 gb535 0 (.int .i64 a1_0) := ct BK535 0
  have hfs13 := blk_frozen BK535.out 0
  have hns13_0 := nn NB534_535
  have hs14 : c_ w10 gb535 1 (.int .i64 a1_1) := ct BK535 1
  have hfs14 := blk_frozen BK535.out 1
  have hns14_0 := nn NB534_535
  refine skip_ (w1 := ?_) (by rfl) rfl ?_ ?_
  rotate_left
  · go_simp
    rfl
  refine hK.out _ _ ?_
  clear hK K
  refine done_ (by kernel_rfl) ?_
  have hnb15 := nn NB534_535
  have hcz16 := k2 BK534
  have hcz17 := k2 BK535
  try go_wp2_with (first | ((with_reducible refine gc 58 rfl ?_); refine gm_ (some 17) rfl rfl Tryd.func58 (whole_Compare.calls _ _ _ _ _ _ _ A5.out) ag ?_; intro w18 hb; replace BK534 := bp_ #[.int .i64 t536, .int .i64 t537] BK534 hb; replace BK535 := bp_ #[.int .i64 t538, .int .i64 t539] BK535 hb; replace HB := bs HB hb; (try clear hb)))
  go_ret
  exact ⟨ae, bf HB⟩

/-! ### frac_Max: function 35 -/
theorem frac_Max.calls (k : Nat) (A0 : Option Addr) (c0 : Nat) (l0 : List (S23)) (r1 : Int) (r2 : Int) (w : World) (hr0 : Kd.C k23 w A0 l0.length l0) (hc0 : l0.length ≤ c0) (h : frac_Max.f k l0 = some (r1, r2)) (hT : TabOK w) :
    Calls Tryd.prog 35 #[.slice A0 l0.length c0] w fun e w' => e = .returned (.agg #[.int .i64 r1, .int .i64 r2]) ∧ Below w.heap.size w w' := by
  have GT := Aside0.mk hT
  clear hT
  have hu23 := Tryd.underlying23
  have HR0 := Aside0.mk hr0
  have HC0 := Aside0.mk hc0
  clear hr0 hc0
  have HB := Aside0.mk (Below.refl w.heap.size w)
  have H : (if (l0.length : Int) = 0 then ((frac_nought.f).bind fun bt542 => (some (bt542.1, bt542.2))) else (if 0 < (l0.length : Int) then ((frac_norm.f k ((rd_T23 l0 0).f0) ((rd_T23 l0 0).f1)).bind fun bt545 => (if 1 ≤ (l0.length : Int) then ((some (l0.drop 1 : List (S23))).bind fun y548 => (frac_Max.l0 k y548 (y548.length : Int) 0 bt545.1 bt545.2)) else (none))) else (none))) = some (r1, r2) := h
  clear h
  by_cases c2 : (l0.length : Int) = 0
  · rw [if_pos c2] at H
    have c2b0 : ((l0.length : Int) == 0) = true := beq_iff_eq.mpr c2
    have c2b1 : ((l0.length : Int) != 0) = false := bne_eq_false_iff_eq.mpr c2
    clear c2
    replace H := bi_ H; obtain ⟨⟨t542, t543⟩, A3, H⟩ := H
    (try dsimp only at H)
    simp only [Option.some.injEq, Prod.mk.injEq] at H
    obtain ⟨rfl, rfl⟩ := H
    go_enter Tryd.func35, Tryd.ntmps35
    go_wp2_with (first | ((with_reducible refine gd 2 rfl ?_); refine bx_ 2 23 #[.int .i64 0, .int .i64 0] rfl rfl ?_; intro gb541 hg w4 BK541 hb; have GE541 := bz HB hg; replace HB := bs HB hb; clear hb hg) | ((with_reducible refine gc 66 rfl ?_); refine gm_ (some 9) rfl rfl Tryd.func66 (frac_nought.calls _ _ _ A3.out) ag ?_; intro w5 hb; replace BK541 := bb BK541 hb; replace HB := bs HB hb; (try clear hb); have hcz6 := k2 BK541))
    refine bodyPost_ret (results_cell_row rfl _ _ gb541 23 #[.int .i64 t542, .int .i64 t543] (0, 0) _ rfl (br_ BK541) Tryd.underlying23 rfl (by kernel_rfl)) rfl ?_
    exact ⟨ae, bf HB⟩
  · rw [if_neg c2] at H
    have c2b0 : ((l0.length : Int) == 0) = false := beq_eq_false_iff_ne.mpr c2
    have c2b1 : ((l0.length : Int) != 0) = true := bne_iff_ne.mpr c2
    have c2b2 : ¬ (l0 = []) := fun h_ => c2 (by rw [h_]; rfl)
    by_cases c7 : 0 < (l0.length : Int)
    · rw [if_pos c7] at H
      have c7b0 : decide (0 < (l0.length : Int)) = true := decide_eq_true c7
      have c7b1 : decide (0 < l0.length) = true := decide_eq_true (by omega)
      clear c7
      replace H := bi_ H; obtain ⟨⟨t545, t546⟩, A8, H⟩ := H
      (try dsimp only at H)
      by_cases c9 : 1 ≤ (l0.length : Int)
      · rw [if_pos c9] at H
        have c9b0 := eq_true c9
        have c9b1 : decide (1 ≤ (l0.length : Int)) = true := decide_eq_true c9
        clear c9
        obtain ⟨y548, hy548⟩ : ∃ y_ : List (S23), y_ = (l0.drop 1) := ⟨_, rfl⟩
        replace H : (frac_Max.l0 k y548 (y548.length : Int) 0 t545 t546) = some (r1, r2) := by first | (rw [hy548]; with_reducible exact H) | (have H2_ := (Option.bind_some _ _).symm.trans H; rw [hy548]; with_reducible exact H2_) | (have H2_ := (Option.bind_some _ _).symm.trans H; with_reducible exact H2_) | with_reducible exact H | (rw [hy548]; exact H) | exact H
        have Ny548 := Aside0.mk hy548
        clear hy548
        have H' := Aside0.mk H
        clear H
        go_enter Tryd.func35, Tryd.ntmps35
        go_wp2_with (first | ((with_reducible refine gd 2 rfl ?_); refine bx_ 2 23 #[.int .i64 0, .int .i64 0] rfl rfl ?_; intro gb541 hg w10 BK541 hb; have GE541 := bz HB hg; replace HB := bs HB hb; clear hb hg; have p544 : 0 ≤ (0 : Int) := (by omega); have q544 : 0 < (l0.length : Int) := of_decide_eq_true (by first | (with_reducible assumption) | assumption); obtain ⟨ad544, e544, hx544_0, hx544_1⟩ := at_T23 HR0.out 0 p544 q544; cases e544; have qi544 : (0 < l0.length) = True := eq_true (by omega); (try rw [show ((0 : Int)).toNat = 0 from rfl] at hx544_0); (try rw [show 0 * 2 = 0 from rfl] at hx544_0); (try rw [Addr.add_zero'] at hx544_0); (try rw [show ((0 : Int)).toNat = 0 from rfl] at hx544_1); (try rw [show 0 * 2 = 0 from rfl] at hx544_1); (try rw [Addr.add_zero'] at hx544_1); replace hx544_0 := (HB.out.cell (World.block_lt_of_cell? w _ hx544_0)).trans hx544_0; replace hx544_1 := (HB.out.cell (World.block_lt_of_cell? w _ hx544_1)).trans hx544_1; replace p544 := eq_true p544; replace q544 := eq_true q544) | ((with_reducible refine gc 56 rfl ?_); refine gm_ (some 13) rfl rfl Tryd.func56 (frac_norm.calls _ ((rd_T23 l0 0).f0) ((rd_T23 l0 0).f1) _ _ _ A8.out (tt GT)) ag ?_; intro w11 hb; replace BK541 := bb BK541 hb; replace HB := bs HB hb; (try clear hb)) | ((with_reducible refine gd 3 rfl ?_); refine bx_ 3 23 #[.int .i64 0, .int .i64 0] rfl rfl ?_; intro gb547 hg w12 BK547 hb; have GE547 := bz HB hg; have ⟨NB541_547, NB547_541⟩ := nb BK541 hg; replace BK541 := bb BK541 hb; replace HB := bs HB hb; clear hb hg; have hnb13 := nn NB547_541; have hcz14 := k2 BK547) | ((with_reducible refine gate_store (t := 23) (p := 3) rfl ?_); refine store_event (t := 23) (p := 3) (v := ?vo_w15) (w1 := ((w12.setCell ⟨gb547, 0, none⟩ (.int .i64 t545)).setCell ⟨gb547, 1, none⟩ (.int .i64 t546))) ?hg ?ho ?hn ?hr ?_; (case ho => rfl); (case hg => rfl); (case hn => rfl); (case hr => first | (go_simp; done) | (go_simp; rfl)); intro w15 hw; have n0_ : Aside0 (w15.heap[gb541]? = some (.cells #[.int .i64 0, .int .i64 0] 23 (0, 0))) := ⟨(by rw [hw]; exact (bx BK541))⟩; have n1_ : Aside0 (w15.heap[gb547]? = some (.cells #[.int .i64 t545, .int .i64 t546] 23 (0, 0))) := ⟨(by rw [hw]; exact (br_ BK547))⟩; have n2_ : Aside0 (Below w.heap.size w w15) := ⟨(by rw [hw]; exact (bf HB))⟩; clear hw; clear BK541; clear BK547; clear HB; have BK541 := n0_; have BK547 := n1_; have HB := n2_; clear n0_ n1_ n2_; have q16 : (1 : Int) ≤ ((l0.length : Int) : Int) := of_decide_eq_true (by first | (with_reducible assumption) | assumption); obtain ⟨i016, hi016, _, hsz16, _⟩ := info_parts info23; have hroom16 : l0.length ≤ c0 := HC0.out; have hC16 : Kd.C k23 _ (some ad544) l0.length l0 := HR0.out; have hcut16 := cut_from (P := Tryd.prog) 39 23 .i64 Tryd.underlying39 hi016 2 hsz16 (some ad544) l0.length c0 1 (by omega) q16; have hr16 := Kd.C_drop (m := (1 : Int).toNat) (c := c0) hC16 (by omega) hroom16; obtain ⟨A16, hA16⟩ : ∃ A1, A1 = (if c0 = (1 : Int).toNat then (some ad544) else ((some ad544) : Option Addr).map (·.add ((1 : Int).toNat * 2))) := ⟨_, rfl⟩; obtain ⟨c16, hc16⟩ : ∃ c1, c1 = c0 - (1 : Int).toNat := ⟨_, rfl⟩; have hy16 : y548.length = l0.length - (1 : Int).toNat := (by rw [Ny548.out, List.length_drop] <;> omega); rw [show (l0).drop (1 : Int).toNat = y548 from Ny548.out.symm] at hr16; replace hr16 : Kd.C k23 _ A16 y548.length y548 := (by rw [hA16]; exact hr16); rw [← hy16, ← hA16, ← hc16] at hcut16; have HR551 := Aside0.mk hr16; have HC551 := Aside0.mk (show y548.length ≤ c16 from by rw [hy16, hc16]; exact Nat.sub_le_sub_right hroom16 _); clear hr16 hC16 hroom16 hi016 hsz16 hc16; have KY16 := Aside0.mk hy16; have KA16 := Aside0.mk hA16; clear hy16 hA16; replace q16 := eq_true q16))
        go_loopg [17] k (fun kq v17 w' => ∃ (x17_1 : Int) (x548000_1 : Int) (x548001_1 : Int), v17 = .int .i64 x17_1 ∧ Aside0 (frac_Max.l0 kq y548 (y548.length : Int) x17_1 x548000_1 x548001_1 = some (r1, r2)) ∧ Aside0 (kq ≤ k) ∧ Aside0 (w'.heap[gb541]? = some (.cells #[.int .i64 0, .int .i64 0] 23 (0, 0))) ∧ Aside0 (w'.heap[gb547]? = some (.cells #[.int .i64 x548000_1, .int .i64 x548001_1] 23 (0, 0))) ∧ Aside0 (Below w.heap.size w w'))
        case atStart => exact ⟨(0), (t545), (t546), (aq), H', ⟨Nat.le_refl _⟩, bu_ BK541, bu_ BK547, ⟨bf HB⟩⟩
        case round =>
          clear H'
          try clear c1
          try clear q1
          try clear c2
          try clear c2b0
          try clear c2b1
          try clear c2b2
          try clear p2
          try clear c3
          try clear c5
          try clear p5
          try clear q5
          try clear hx5
          try clear qi5
          try clear c6
          try clear c7
          try clear c7b0
          try clear c7b1
          try clear c9
          try clear c9b0
          try clear c9b1
          try clear c13
          try clear c16
          try clear q16
          try clear hcz14
          try clear hcz6
          try clear hx544_0
          try clear hx544_1
          try clear p544
          try clear q16
          try clear q544
          obtain ⟨x17_1, x548000_1, x548001_1, rfl, HA, HK1, BK541, BK547, HB⟩ := hrel
          cases gk with
          | zero => exact absurd HA.out (by simp [frac_Max.l0])
          | succ k1 =>
            have H := HA.out
            clear HA
            simp only [frac_Max.l0] at H
            by_cases c17 : x17_1 < (y548.length : Int)
            · rw [if_pos c17] at H
              have c17b0 : decide (x17_1 < (y548.length : Int)) = true := decide_eq_true c17
              clear c17
              by_cases c18 : 0 ≤ x17_1
              · rw [if_pos c18] at H
                have c18b0 : decide (0 ≤ x17_1) = true := decide_eq_true c18
                clear c18
                by_cases c19 : x17_1 < (y548.length : Int)
                · rw [if_pos c19] at H
                  have c19b0 : decide (x17_1 < (y548.length : Int)) = true := decide_eq_true c19
                  clear c19
                  replace H := bi_ H; obtain ⟨t554, A20, H⟩ := H
                  (try dsimp only at H)
                  by_cases c21 : t554 > 0
                  · rw [if_pos c21] at H
                    have c21b0 : decide (0 < t554) = true := decide_eq_true c21
                    clear c21
                    replace H := bi_ H; obtain ⟨⟨t555, t556⟩, A22, H⟩ := H
                    (try dsimp only at H)
                    have H' := Aside0.mk H
                    clear H
                    have p552 : 0 ≤ (x17_1 : Int) := of_decide_eq_true (by first | (with_reducible assumption) | assumption)
                    have q552 : x17_1 < (y548.length : Int) := of_decide_eq_true (by first | (with_reducible assumption) | assumption)
                    obtain ⟨ad552, e552, hx552_0, hx552_1⟩ := at_T23 HR551.out x17_1 p552 q552
                    cases e552
                    replace hx552_0 := (HB.out.cell (World.block_lt_of_cell? w _ hx552_0)).trans hx552_0
                    replace hx552_1 := (HB.out.cell (World.block_lt_of_cell? w _ hx552_1)).trans hx552_1
                    replace p552 := eq_true p552
                    replace q552 := eq_true q552
                    go_wp2_with (first | ((with_reducible refine gd 5 rfl ?_); refine bx_ 5 23 #[.int .i64 0, .int .i64 0] rfl rfl ?_; intro gb553 hg w23 BK553 hb; have GE553 := bz HB hg; have ⟨NB541_553, NB553_541⟩ := nb BK541 hg; have ⟨NB547_553, NB553_547⟩ := nb BK547 hg; replace BK541 := bb BK541 hb; replace BK547 := bb BK547 hb; replace HB := bs HB hb; clear hb hg; have hnb24 := nn NB553_541; have hnb25 := nn NB553_547; have hcz26 := k2 BK553; have hnb27 := nn NB547_541; have hcz28 := k2 BK547) | ((with_reducible refine gc 25 rfl ?_); refine gm_ (some 23) rfl rfl Tryd.func25 (frac_Cmp.calls _ ((rd_T23 y548 x17_1).f0) ((rd_T23 y548 x17_1).f1) _ _ _ _ A20.out (tt GT)) ag ?_; intro w29 hb; replace BK541 := bb BK541 hb; replace BK547 := bb BK547 hb; replace BK553 := bp_ #[.int .i64 ((rd_T23 y548 x17_1).f0), .int .i64 ((rd_T23 y548 x17_1).f1)] BK553 hb; replace HB := bs HB hb; (try clear hb); have hcz30 := k2 BK553) | ((with_reducible refine gc 56 rfl ?_); refine gm_ (some 26) rfl rfl Tryd.func56 (frac_norm.calls _ ((rd_T23 y548 x17_1).f0) ((rd_T23 y548 x17_1).f1) _ _ _ A22.out (tt GT)) ag ?_; intro w31 hb; replace BK541 := bb BK541 hb; replace BK547 := bb BK547 hb; replace HB := bs HB hb; (try clear hb); have hcz32 := k2 BK547))
                    go_roundg k1
                    case measure => have := HK1.out; omega
                    case rel => exact ⟨(wrap64 (x17_1 + 1)), (t555), (t556), (aq), H', ⟨by have := HK1.out; omega⟩, bu_ BK541, bq_ BK547, ⟨bf HB⟩⟩
                  · rw [if_neg c21] at H
                    have c21b0 : decide (0 < t554) = false := decide_eq_false c21
                    clear c21
                    have H' := Aside0.mk H
                    clear H
                    have p552 : 0 ≤ (x17_1 : Int) := of_decide_eq_true (by first | (with_reducible assumption) | assumption)
                    have q552 : x17_1 < (y548.length : Int) := of_decide_eq_true (by first | (with_reducible assumption) | assumption)
                    obtain ⟨ad552, e552, hx552_0, hx552_1⟩ := at_T23 HR551.out x17_1 p552 q552
                    cases e552
                    replace hx552_0 := (HB.out.cell (World.block_lt_of_cell? w _ hx552_0)).trans hx552_0
                    replace hx552_1 := (HB.out.cell (World.block_lt_of_cell? w _ hx552_1)).trans hx552_1
                    replace p552 := eq_true p552
                    replace q552 := eq_true q552
                    go_wp2_with (first | ((with_reducible refine gd 5 rfl ?_); refine bx_ 5 23 #[.int .i64 0, .int .i64 0] rfl rfl ?_; intro gb553 hg w33 BK553 hb; have GE553 := bz HB hg; have ⟨NB541_553, NB553_541⟩ := nb BK541 hg; have ⟨NB547_553, NB553_547⟩ := nb BK547 hg; replace BK541 := bb BK541 hb; replace BK547 := bb BK547 hb; replace HB := bs HB hb; clear hb hg; have hnb34 := nn NB553_541; have hnb35 := nn NB553_547; have hcz36 := k2 BK553; have hnb37 := nn NB547_541; have hcz38 := k2 BK547) | ((with_reducible refine gc 25 rfl ?_); refine gm_ (some 23) rfl rfl Tryd.func25 (frac_Cmp.calls _ ((rd_T23 y548 x17_1).f0) ((rd_T23 y548 x17_1).f1) _ _ _ _ A20.out (tt GT)) ag ?_; intro w39 hb; replace BK541 := bb BK541 hb; replace BK547 := bb BK547 hb; replace BK553 := bp_ #[.int .i64 ((rd_T23 y548 x17_1).f0), .int .i64 ((rd_T23 y548 x17_1).f1)] BK553 hb; replace HB := bs HB hb; (try clear hb)))
                    go_roundg k1
                    case measure => have := HK1.out; omega
                    case rel => exact ⟨(wrap64 (x17_1 + 1)), (x548000_1), (x548001_1), (aq), H', ⟨by have := HK1.out; omega⟩, bu_ BK541, bu_ BK547, ⟨bf HB⟩⟩
                · rw [if_neg c19] at H
                  exact absurd H (by simp)
              · rw [if_neg c18] at H
                exact absurd H (by simp)
            · rw [if_neg c17] at H
              have c17b0 : decide (x17_1 < (y548.length : Int)) = false := decide_eq_false c17
              clear c17
              simp only [Option.some.injEq, Prod.mk.injEq] at H
              obtain ⟨rfl, rfl⟩ := H
              have hnb40 := nn NB547_541
              have hcz41 := k2 BK547
              have hcz42 := k2 BK541
              go_wp2
              refine bodyPost_ret (results_cell_row rfl _ _ gb541 23 #[.int .i64 x548000_1, .int .i64 x548001_1] (0, 0) _ rfl (br_ BK541) Tryd.underlying23 rfl (by kernel_rfl)) rfl ?_
              exact ⟨ae, bf HB⟩
      · rw [if_neg c9] at H
        exact absurd H (by simp)
    · rw [if_neg c7] at H
      exact absurd H (by simp)

/-! ### carrefourref01_sign: function 83 -/
theorem carrefourref01_sign.calls (k : Nat) (a0 : Int) (a1 : Int) (r : Int) (w : World) (h : carrefourref01_sign.f k a0 a1 = some r) :
    Calls Tryd.prog 83 #[.int .i64 a0, .int .i64 a1] w fun e w' => e = .returned (.int .i64 r) ∧ Drawn0 w w' := by
  have H : (if a0 = 0 then (carrefourref01_sign.j0 k a0 a1 true) else (carrefourref01_sign.j0 k a0 a1 (a1 == 0))) = some r := h
  clear h
  have HC3 := Aside0.mk H
  clear H
  go_enter Tryd.func83, Tryd.ntmps83
  go_upto_region 1 with (fail)
  go_cut [10] (fun v10 wc => ∃ (kq : Nat) (x10_2 : Bool), v10 = .bool x10_2 ∧ Aside0 (carrefourref01_sign.j0 kq a0 a1 x10_2 = some r) ∧ Aside0 (kq ≤ k) ∧ Drawn0 w wc)
  case first =>
    have H := HC3.out
    clear HC3
    by_cases c4 : a0 = 0
    · rw [if_pos c4] at H
      have c4b0 : (a0 == 0) = true := beq_iff_eq.mpr c4
      have c4b1 : (a0 != 0) = false := bne_eq_false_iff_eq.mpr c4
      clear c4
      (first | rw [c4b0] | (simp only [i64_w, i32_w]; rw [c4b0]) | skip)
      have H' := Aside0.mk H
      clear H
      go_wp2
      go_meet
      case rel => exact ⟨_, (true), (aq), H', ⟨by first | omega | exact Nat.le_refl _⟩, dr⟩
    · rw [if_neg c4] at H
      have c4b0 : (a0 == 0) = false := beq_eq_false_iff_ne.mpr c4
      have c4b1 : (a0 != 0) = true := bne_iff_ne.mpr c4
      (first | rw [c4b0] | (simp only [i64_w, i32_w]; rw [c4b0]) | skip)
      have H' := Aside0.mk H
      clear H
      go_wp2
      go_meet
      case rel => exact ⟨_, ((a1 == 0)), (aq), H', ⟨by first | omega | exact Nat.le_refl _⟩, dr⟩
  case rest =>
    clear HC3
    try clear p2
    try clear c4
    try clear c4b0
    try clear c4b1
    obtain ⟨kq, x10_2, rfl, HA, HJ2, ⟨mc2, rfl⟩⟩ := hcut
    cases kq with
    | zero => exact absurd HA.out (by simp [carrefourref01_sign.j0])
    | succ kj2 =>
      have H := HA.out
      clear HA
      simp only [carrefourref01_sign.j0] at H
      by_cases c5 : x10_2 = true
      · subst c5
        have H1 : (some 0) = some r := by rw [if_pos rfl] at H; exact H
        clear H
        have H := H1
        clear H1
        obtain rfl := Option.some.inj H
        go_wp2
        go_ret
        exact ⟨aq, dr⟩
      · replace c5 := Bool.eq_false_iff.mpr c5
        subst c5
        have H1 : (if ((decide (a0 < 0)) != (decide (a1 < 0))) = true then (some (-1)) else (some 1)) = some r := by rw [if_neg (show ¬ (false = true) by decide)] at H; exact H
        clear H
        have H := H1
        clear H1
        by_cases c6 : ((decide (a0 < 0)) != (decide (a1 < 0))) = true
        · rw [if_pos c6] at H
          have c6b0 : ((decide (a0 < 0)) != (decide (a1 < 0))) = true := c6
          (try (have c6b1 : decide ((decide (a0 < 0)) = (decide (a1 < 0))) = false := by simpa using c6))
          (try (have c6b2 : ((decide (a0 < 0)) == (decide (a1 < 0))) = false := by simpa using c6))
          (try (have c6b3 : ¬ ((decide (a0 < 0)) = (decide (a1 < 0))) := by simpa using c6))
          clear c6
          obtain rfl := Option.some.inj H
          go_wp2
          go_ret
          exact ⟨aq, dr⟩
        · rw [if_neg c6] at H
          have c6b0 : ((decide (a0 < 0)) != (decide (a1 < 0))) = false := by simpa using c6
          (try (have c6b1 : decide ((decide (a0 < 0)) = (decide (a1 < 0))) = true := by simpa using c6))
          (try (have c6b2 : ((decide (a0 < 0)) == (decide (a1 < 0))) = true := by simpa using c6))
          clear c6
          obtain rfl := Option.some.inj H
          go_wp2
          go_ret
          exact ⟨aq, dr⟩

end Go.Proofs.YtjgnaccamakpdaaDoor.X
