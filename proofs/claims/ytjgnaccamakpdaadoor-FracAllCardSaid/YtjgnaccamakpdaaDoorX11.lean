/- Walks: each '.calls' says that the Go function comes to what its Lean function tells. Conditions: as each theorem's head says. -/
import Derived.Test.YtjgnaccamakpdaaDoorXD
import Derived.Test.YtjgnaccamakpdaaDoorX0
import Derived.Test.YtjgnaccamakpdaaDoorX1
import Derived.Test.YtjgnaccamakpdaaDoorX8
import Derived.Test.YtjgnaccamakpdaaDoorX10
namespace Go.Proofs.YtjgnaccamakpdaaDoor.X
open Go.RowKit Go.Proofs.YtjgnaccamakpdaaDoorW.PrintWords Go.Proofs.YtjgnaccamakpdaaDoorW.PrintLast Go.Proofs.YtjgnaccamakpdaaDoorW.PrintMore
attribute [local go_sem] max2_int min2_int max_two min_two max_three min_three max_four min_four   -- for this text's walks alone
set_option linter.unusedVariables false
set_option maxHeartbeats 8000000
set_option maxRecDepth 100000
set_option linter.unusedSimpArgs false

attribute [local go_sem high] eqA23
/-! ### frac_Add: function 10 -/
theorem frac_Add.calls (k : Nat) (a0_0 : Int) (a0_1 : Int) (a1_0 : Int) (a1_1 : Int) (r1 : Int) (r2 : Int) (r3 : Int) (w : World) (h : frac_Add.f k a0_0 a0_1 a1_0 a1_1 = some (r1, r2, r3)) (hT : TabOK w) :
    Calls Tryd.prog 10 #[.agg #[.int .i64 a0_0, .int .i64 a0_1], .agg #[.int .i64 a1_0, .int .i64 a1_1]] w fun e w' => e = .returned (.tuple #[.agg #[.int .i64 r1, .int .i64 r2], .int .i64 r3]) ∧ Below w.heap.size w w' := by
  have GT := Aside0.mk hT
  clear hT
  have hu23 := Tryd.underlying23
  have HB := Aside0.mk (Below.refl w.heap.size w)
  have H : ((frac_added_fn38.f k a0_0 a0_1 a1_0 a1_1).bind fun bt266 => (some (bt266.1, bt266.2.1, bt266.2.2))) = some (r1, r2, r3) := h
  clear h
  replace H := bi_ H; obtain ⟨⟨t266, t267, t268⟩, A3, H⟩ := H
  (try dsimp only at H)
  simp only [Option.some.injEq, Prod.mk.injEq] at H
  obtain ⟨rfl, rfl, rfl⟩ := H
  go_enter Tryd.func10, Tryd.ntmps10
  go_wp2_with (first | ((with_reducible refine gd 2 rfl ?_); refine bx_ 2 23 #[.int .i64 a0_0, .int .i64 a0_1] rfl rfl ?_; intro gb263 hg w4 BK263 hb; have GE263 := bz HB hg; replace HB := bs HB hb; clear hb hg) | ((with_reducible refine gd 3 rfl ?_); refine bx_ 3 23 #[.int .i64 a1_0, .int .i64 a1_1] rfl rfl ?_; intro gb264 hg w5 BK264 hb; have GE264 := bz HB hg; have ⟨NB263_264, NB264_263⟩ := nb BK263 hg; replace BK263 := bb BK263 hb; replace HB := bs HB hb; clear hb hg) | ((with_reducible refine gd 4 rfl ?_); refine bx_ 4 23 #[.int .i64 0, .int .i64 0] rfl rfl ?_; intro gb265 hg w6 BK265 hb; have GE265 := bz HB hg; have ⟨NB263_265, NB265_263⟩ := nb BK263 hg; have ⟨NB264_265, NB265_264⟩ := nb BK264 hg; replace BK263 := bb BK263 hb; replace BK264 := bb BK264 hb; replace HB := bs HB hb; clear hb hg; have hnb7 := nn NB263_264; have hnb8 := nn NB263_265; have hcz9 := k2 BK263; have hnb10 := nn NB264_265; have hcz11 := k2 BK264) | ((with_reducible refine gc 37 rfl ?_); refine gm_ (some 8) rfl rfl Tryd.func37 (frac_added_fn38.calls _ _ _ _ _ _ _ _ _ A3.out (tt GT)) ag ?_; intro w12 hb; replace BK265 := bb BK265 hb; replace HB := bs HB hb; (try clear hb); have hcz13 := k2 BK265))
  refine bodyPost_ret (results_ct rfl _ _ gb265 23 #[.int .i64 t266, .int .i64 t267] (0, 0) _ rfl (br_ BK265) Tryd.underlying23 rfl (by kernel_rfl)) rfl ?_
  exact ⟨ae, bf HB⟩

/-! ### whole_Sub: function 96 -/
theorem whole_Sub.calls (a0 : Int) (a1 : Int) (r1 : Int) (r2 : Int) (w : World) (h : whole_Sub.f a0 a1 = some (r1, r2)) :
    Calls Tryd.prog 96 #[.int .i64 a0, .int .i64 a1] w fun e w' => e = .returned (.tuple #[.int .i64 r1, .int .i64 r2]) ∧ Drawn0 w w' := by
  have H : (if ((decide ((wrap64 (a0 - a1)) > a0)) != (decide (a1 < 0))) = true then (some (0, 2)) else (some (wrap64 (a0 - a1), 0))) = some (r1, r2) := h
  clear h
  by_cases c3 : ((decide ((wrap64 (a0 - a1)) > a0)) != (decide (a1 < 0))) = true
  · rw [if_pos c3] at H
    have c3b0 : ((decide ((wrap64 (a0 - a1)) > a0)) != (decide (a1 < 0))) = true := c3
    (try (have c3b1 : decide ((decide ((wrap64 (a0 - a1)) > a0)) = (decide (a1 < 0))) = false := by simpa using c3))
    (try (have c3b2 : ((decide ((wrap64 (a0 - a1)) > a0)) == (decide (a1 < 0))) = false := by simpa using c3))
    (try (have c3b3 : ¬ ((decide ((wrap64 (a0 - a1)) > a0)) = (decide (a1 < 0))) := by simpa using c3))
    clear c3
    simp only [Option.some.injEq, Prod.mk.injEq] at H
    obtain ⟨rfl, rfl⟩ := H
    go_enter Tryd.func96, Tryd.ntmps96
    go_wp2
    go_ret2
    exact ⟨aq, dr⟩
  · rw [if_neg c3] at H
    have c3b0 : ((decide ((wrap64 (a0 - a1)) > a0)) != (decide (a1 < 0))) = false := by simpa using c3
    (try (have c3b1 : decide ((decide ((wrap64 (a0 - a1)) > a0)) = (decide (a1 < 0))) = true := by simpa using c3))
    (try (have c3b2 : ((decide ((wrap64 (a0 - a1)) > a0)) == (decide (a1 < 0))) = true := by simpa using c3))
    clear c3
    simp only [Option.some.injEq, Prod.mk.injEq] at H
    obtain ⟨rfl, rfl⟩ := H
    go_enter Tryd.func96, Tryd.ntmps96
    go_wp2
    go_ret2
    exact ⟨aq, dr⟩

/-! ### whole_Neg: function 84 -/
theorem whole_Neg.calls (a0 : Int) (r1 : Int) (r2 : Int) (w : World) (h : whole_Neg.f a0 = some (r1, r2)) :
    Calls Tryd.prog 84 #[.int .i64 a0] w fun e w' => e = .returned (.tuple #[.int .i64 r1, .int .i64 r2]) ∧ Drawn0 w w' := by
  have H : ((whole_Sub.f 0 a0).bind fun bt269 => (some (bt269.1, bt269.2))) = some (r1, r2) := h
  clear h
  replace H := bi_ H; obtain ⟨⟨t269, t270⟩, A2, H⟩ := H
  (try dsimp only at H)
  simp only [Option.some.injEq, Prod.mk.injEq] at H
  obtain ⟨rfl, rfl⟩ := H
  go_enter Tryd.func84, Tryd.ntmps84
  go_wp2_with (first | ((with_reducible refine gc 96 rfl ?_); refine gm_ (some 5) rfl rfl Tryd.func96 (whole_Sub.calls _ _ _ _ _ A2.out) ag ?_; rintro w' ⟨nd, rfl⟩))
  go_ret2
  exact ⟨aq, dr⟩

/-! ### whole_Floor: function 60 -/
theorem whole_Floor.calls (a0 : Int) (a1 : Int) (r1 : Int) (r2 : Int) (w : World) (h : whole_Floor.f a0 a1 = some (r1, r2)) :
    Calls Tryd.prog 60 #[.int .i64 a0, .int .i64 a1] w fun e w' => e = .returned (.tuple #[.int .i64 r1, .int .i64 r2]) ∧ Drawn0 w w' := by
  have H : (if a1 = 0 then (some (0, 3)) else (if a1 = (-1) then ((whole_Neg.f a0).bind fun bt271 => (some (bt271.1, bt271.2))) else (if (Int.tmod a0 a1) = 0 then (some (wrap64 (Int.tdiv a0 a1), 0)) else (if ((decide ((Int.tmod a0 a1) < 0)) != (decide (a1 < 0))) = true then (some (wrap64 ((wrap64 (Int.tdiv a0 a1)) - 1), 0)) else (some (wrap64 (Int.tdiv a0 a1), 0)))))) = some (r1, r2) := h
  clear h
  by_cases c3 : a1 = 0
  · rw [if_pos c3] at H
    have c3b0 : (a1 == 0) = true := beq_iff_eq.mpr c3
    have c3b1 : (a1 != 0) = false := bne_eq_false_iff_eq.mpr c3
    clear c3
    simp only [Option.some.injEq, Prod.mk.injEq] at H
    obtain ⟨rfl, rfl⟩ := H
    go_enter Tryd.func60, Tryd.ntmps60
    go_wp2
    repeat (go_quiet (fail); try go_wp2)
    go_ret2
    exact ⟨aq, dr⟩
  · rw [if_neg c3] at H
    have c3b0 : (a1 == 0) = false := beq_eq_false_iff_ne.mpr c3
    have c3b1 : (a1 != 0) = true := bne_iff_ne.mpr c3
    by_cases c4 : a1 = (-1)
    · rw [if_pos c4] at H
      have c4b0 : (a1 == (-1)) = true := beq_iff_eq.mpr c4
      have c4b1 : (a1 != (-1)) = false := bne_eq_false_iff_eq.mpr c4
      clear c4
      replace H := bi_ H; obtain ⟨⟨t271, t272⟩, A5, H⟩ := H
      (try dsimp only at H)
      simp only [Option.some.injEq, Prod.mk.injEq] at H
      obtain ⟨rfl, rfl⟩ := H
      go_enter Tryd.func60, Tryd.ntmps60
      go_wp2_with (first | (go_at_call 84; (with_reducible refine (whole_Neg.calls _ _ _ _ A5.out).mono ?_); rintro e w' ⟨rfl, ⟨nd, rfl⟩⟩; (try first | exact ⟨rfl, _, World.drewN_drewN _ _ _⟩ | exact ⟨rfl, _, Eq.trans (World.drewN_drewN _ _ _) (congrArg (World.drewN _) (Nat.add_assoc _ _ _))⟩)))
      repeat (go_quiet (first | (go_at_call 84; (with_reducible refine (whole_Neg.calls _ _ _ _ A5.out).mono ?_); rintro e w' ⟨rfl, ⟨nd, rfl⟩⟩; (try first | exact ⟨rfl, _, World.drewN_drewN _ _ _⟩ | exact ⟨rfl, _, Eq.trans (World.drewN_drewN _ _ _) (congrArg (World.drewN _) (Nat.add_assoc _ _ _))⟩))); try go_wp2_with (first | (go_at_call 84; (with_reducible refine (whole_Neg.calls _ _ _ _ A5.out).mono ?_); rintro e w' ⟨rfl, ⟨nd, rfl⟩⟩; (try first | exact ⟨rfl, _, World.drewN_drewN _ _ _⟩ | exact ⟨rfl, _, Eq.trans (World.drewN_drewN _ _ _) (congrArg (World.drewN _) (Nat.add_assoc _ _ _))⟩))))
      go_ret2
      exact ⟨aq, dr⟩
    · rw [if_neg c4] at H
      have c4b0 : (a1 == (-1)) = false := beq_eq_false_iff_ne.mpr c4
      have c4b1 : (a1 != (-1)) = true := bne_iff_ne.mpr c4
      by_cases c6 : (Int.tmod a0 a1) = 0
      · rw [if_pos c6] at H
        have c6b0 : ((Int.tmod a0 a1) == 0) = true := beq_iff_eq.mpr c6
        have c6b1 : ((Int.tmod a0 a1) != 0) = false := bne_eq_false_iff_eq.mpr c6
        clear c6
        simp only [Option.some.injEq, Prod.mk.injEq] at H
        obtain ⟨rfl, rfl⟩ := H
        go_enter Tryd.func60, Tryd.ntmps60
        go_wp2
        repeat (go_quiet (fail); try go_wp2)
        go_ret2
        exact ⟨aq, dr⟩
      · rw [if_neg c6] at H
        have c6b0 : ((Int.tmod a0 a1) == 0) = false := beq_eq_false_iff_ne.mpr c6
        have c6b1 : ((Int.tmod a0 a1) != 0) = true := bne_iff_ne.mpr c6
        by_cases c7 : ((decide ((Int.tmod a0 a1) < 0)) != (decide (a1 < 0))) = true
        · rw [if_pos c7] at H
          have c7b0 : ((decide ((Int.tmod a0 a1) < 0)) != (decide (a1 < 0))) = true := c7
          (try (have c7b1 : decide ((decide ((Int.tmod a0 a1) < 0)) = (decide (a1 < 0))) = false := by simpa using c7))
          (try (have c7b2 : ((decide ((Int.tmod a0 a1) < 0)) == (decide (a1 < 0))) = false := by simpa using c7))
          (try (have c7b3 : ¬ ((decide ((Int.tmod a0 a1) < 0)) = (decide (a1 < 0))) := by simpa using c7))
          clear c7
          simp only [Option.some.injEq, Prod.mk.injEq] at H
          obtain ⟨rfl, rfl⟩ := H
          go_enter Tryd.func60, Tryd.ntmps60
          go_wp2
          repeat (go_quiet (fail); try go_wp2)
          go_ret2
          exact ⟨aq, dr⟩
        · rw [if_neg c7] at H
          have c7b0 : ((decide ((Int.tmod a0 a1) < 0)) != (decide (a1 < 0))) = false := by simpa using c7
          (try (have c7b1 : decide ((decide ((Int.tmod a0 a1) < 0)) = (decide (a1 < 0))) = true := by simpa using c7))
          (try (have c7b2 : ((decide ((Int.tmod a0 a1) < 0)) == (decide (a1 < 0))) = true := by simpa using c7))
          clear c7
          simp only [Option.some.injEq, Prod.mk.injEq] at H
          obtain ⟨rfl, rfl⟩ := H
          go_enter Tryd.func60, Tryd.ntmps60
          go_wp2
          repeat (go_quiet (fail); try go_wp2)
          go_ret2
          exact ⟨aq, dr⟩

/-! ### frac_Floor: function 27 -/
theorem frac_Floor.calls (k : Nat) (a0_0 : Int) (a0_1 : Int) (r : Int) (w : World) (h : frac_Floor.f k a0_0 a0_1 = some r) (hT : TabOK w) :
    Calls Tryd.prog 27 #[.agg #[.int .i64 a0_0, .int .i64 a0_1]] w fun e w' => e = .returned (.int .i64 r) ∧ Below w.heap.size w w' := by
  have GT := Aside0.mk hT
  clear hT
  have hu23 := Tryd.underlying23
  have HB := Aside0.mk (Below.refl w.heap.size w)
  have H : ((frac_norm.f k a0_0 a0_1).bind fun bt274 => ((whole_Floor.f bt274.1 bt274.2).bind fun bt276 => (some bt276.1))) = some r := h
  clear h
  replace H := bi_ H; obtain ⟨⟨t274, t275⟩, A2, H⟩ := H
  (try dsimp only at H)
  replace H := bi_ H; obtain ⟨⟨t276, t277⟩, A3, H⟩ := H
  (try dsimp only at H)
  obtain rfl := Option.some.inj H
  go_enter Tryd.func27, Tryd.ntmps27
  go_wp2_with (first | ((with_reducible refine gd 1 rfl ?_); refine bx_ 1 23 #[.int .i64 a0_0, .int .i64 a0_1] rfl rfl ?_; intro gb273 hg w4 BK273 hb; have GE273 := bz HB hg; replace HB := bs HB hb; clear hb hg; have hcz5 := k2 BK273) | ((with_reducible refine gc 56 rfl ?_); refine gm_ (some 6) rfl rfl Tryd.func56 (frac_norm.calls _ _ _ _ _ _ A2.out (tt GT)) ag ?_; intro w6 hb; replace BK273 := bb BK273 hb; replace HB := bs HB hb; (try clear hb); have hcz7 := k2 BK273) | ((with_reducible refine gc 60 rfl ?_); refine gm_ (some 12) rfl rfl Tryd.func60 (whole_Floor.calls _ _ _ _ _ A3.out) ag ?_; rintro w' ⟨nd, rfl⟩))
  go_ret
  exact ⟨ae, bf HB⟩


/-! ### strconv_FormatInt: function 64 -/
theorem strconv_FormatInt.calls (a0 a1 : Int) (r : ByteArray) (w : World) (h : strconv_FormatInt.f a0 a1 = some r) (hT : TabOK w) :
    Calls Tryd.prog 64 #[.int .i64 a0, .int .i64 a1] w fun e w' => e = .returned (.string r) ∧ Below w.heap.size w w' := by
  unfold strconv_FormatInt.f at h
  by_cases c : a1 = 10 ∧ -9223372036854775808 ≤ a0 ∧ a0 ≤ 9223372036854775807
  · rw [if_pos c] at h
    obtain rfl := Option.some.inj h
    obtain ⟨rfl, h0, h1⟩ := c
    refine (Tryd.strconv_FormatInt_10 a0 h0 h1 w hT.2).mono fun e w' ⟨he, k, os, hw⟩ => ⟨he, ?_⟩
    subst hw
    exact ⟨rfl, rfl, rfl, by simp [Sort.grow, World.drewN], fun i hi => by simp [Sort.grow, World.drewN, Array.getElem?_append_left hi]⟩
  · rw [if_neg c] at h
    cases h

/-! ### frac_Print: function 31 -/
def frac_Print.T2 : Bool × List (List Nat × List Nat) := (true, [([], []), ([0], [0]), ([1], [1]), ([2], [2]), ([], []), ([4], [4]), ([5, 2], [5]), ([3, 6], [3, 6]), ([7, 6, 0, 1, 2, 3, 4, 5, 6, 7], [7])])
def frac_Print.B2 : List Nat := [0, 1, 3, 7, 0, 16, 55, 127, 255]
theorem frac_Print.tab2 : rtab .any (opsOf Tryd.f31 2) = frac_Print.T2 := by kernel_rfl
theorem frac_Print.bits2 : waitsOk frac_Print.T2.2 frac_Print.B2 = true := by kernel_rfl
theorem frac_Print.calls (k : Nat) (a0_0 : Int) (a0_1 : Int) (r : ByteArray) (w : World) (h : frac_Print.f k a0_0 a0_1 = some r) (hT : TabOK w) :
    Calls Tryd.prog 31 #[.agg #[.int .i64 a0_0, .int .i64 a0_1]] w fun e w' => e = .returned (.string r) ∧ Below w.heap.size w w' := by
  have GT := Aside0.mk hT
  clear hT
  have hu23 := Tryd.underlying23
  have HB := Aside0.mk (Below.refl w.heap.size w)
  have H : ((frac_norm.f k a0_0 a0_1).bind fun bt279 => ((strconv_FormatInt.f bt279.1 10).bind fun t281 => (if t281.size + 1 ≤ 9223372036854775807 then ((strconv_FormatInt.f bt279.2 10).bind fun t282 => (if (t281 ++ (⟨#[47]⟩ : ByteArray)).size + t282.size ≤ 9223372036854775807 then (some ((t281 ++ (⟨#[47]⟩ : ByteArray)) ++ t282)) else (none))) else (none)))) = some r := h
  clear h
  replace H := bi_ H; obtain ⟨⟨t279, t280⟩, A2, H⟩ := H
  (try dsimp only at H)
  replace H := bi_ H; obtain ⟨t281, A3, H⟩ := H
  (try dsimp only at H)
  by_cases c4 : t281.size + 1 ≤ 9223372036854775807
  · rw [if_pos c4] at H
    have c4b0 := eq_true c4
    have c4b1 : decide (t281.size + 1 ≤ 9223372036854775807) = true := decide_eq_true c4
    try have c4b2 : (9223372036854775807 < t281.size + 1) = False := eq_false (Nat.not_lt.2 c4)
    replace H := bi_ H; obtain ⟨t282, A5, H⟩ := H
    (try dsimp only at H)
    by_cases c6 : (t281 ++ (⟨#[47]⟩ : ByteArray)).size + t282.size ≤ 9223372036854775807
    · rw [if_pos c6] at H
      have c6b0 := eq_true c6
      have c6b1 : decide ((t281 ++ (⟨#[47]⟩ : ByteArray)).size + t282.size ≤ 9223372036854775807) = true := decide_eq_true c6
      try have c6b2 : (9223372036854775807 < (t281 ++ (⟨#[47]⟩ : ByteArray)).size + t282.size) = False := eq_false (Nat.not_lt.2 c6)
      try have c6b3 : (9223372036854775807 < t281.size + 1 + t282.size) = False := eq_false (Nat.not_lt.2 (by have hs_ := c6; rw [ByteArray.size_append] at hs_; exact hs_))
      obtain rfl := Option.some.inj H
      go_enter Tryd.func31, Tryd.ntmps31
      try go_wp2_with (first | ((with_reducible refine gd 1 rfl ?_); refine bx_ 1 23 #[.int .i64 a0_0, .int .i64 a0_1] rfl rfl ?_; intro gb278 hg w7 BK278 hb; have GE278 := bz HB hg; replace HB := bs HB hb; clear hb hg; have hcz8 := k2 BK278) | ((with_reducible refine gc 56 rfl ?_); refine gm_ (some 4) rfl rfl Tryd.func56 (frac_norm.calls _ _ _ _ _ _ A2.out (tt GT)) ag ?_; intro w9 hb; replace BK278 := bb BK278 hb; replace HB := bs HB hb; (try clear hb); have hcz10 := k2 BK278))
      have n0_ : Aside0 (((w9.setCell ⟨gb278, 0, none⟩ (.int .i64 t279)).setCell ⟨gb278, 1, none⟩ (.int .i64 t280)).heap[gb278]? = some (.cells #[.int .i64 t279, .int .i64 t280] 23 (0, 0))) := bq_ BK278
      have n1_ : Aside0 (Below w.heap.size w ((w9.setCell ⟨gb278, 0, none⟩ (.int .i64 t279)).setCell ⟨gb278, 1, none⟩ (.int .i64 t280))) := ⟨bf HB⟩
      (try clear BK278); (try clear HB)
      generalize ((w9.setCell ⟨gb278, 0, none⟩ (.int .i64 t279)).setCell ⟨gb278, 1, none⟩ (.int .i64 t280)) = w11 at n0_ n1_ ⊢
      have BK278 := n0_
      have HB := n1_
      clear n0_ n1_
      replace BK278 := Aside0.mk (blk_drew BK278.out)
      replace HB := Aside0.mk (below_drew1 HB.out)
      refine start_ (n := 9) (S := fun w' => c_ w' gb278 0 (.int .i64 t279) ∧ c_ w' gb278 1 (.int .i64 t280)) (ds := []) (m_ 9 0) (by kernel_rfl) rfl rfl ⟨ct BK278 0, ct BK278 1⟩ (fun hHeld => ?_); refine with_tabW frac_Print.tab2 frac_Print.bits2 (fun HT_ HW_ => ?_)
      generalize w11.drew = w12 at BK278 HB hHeld ⊢
      refine pu_ 0 (some 5) (m_ 9 1) rfl rfl (ao HT_) ?_
      refine pu_ 4 (some 9) (m_ 9 17) rfl rfl (ao HT_) ?_
      refine tk_ 1 (some 6) (m_ 9 19) rfl rfl (tw HT_ HW_) hHeld ?_
      refine tk_ 5 (some 10) (m_ 9 51) rfl rfl (tw HT_ HW_) hHeld ?_
      refine o1_ 2 (some 7) (m_ 9 55) rfl rfl (oo HT_) (fun K hK => ?_)
      refine gs_ rfl Tryd.func64 (strconv_FormatInt.calls _ _ _ _ A3.out (tt GT)) ag ?_
      intro w13 hb
      replace BK278 := bb BK278 hb
      replace HB := bs HB hb
      (try clear hb)
      refine hK.out _ _ ⟨ct BK278 0, ct BK278 1⟩ (fun hHeld => ?_)
      clear hK K
      refine nr_ (some 7) ?_
      refine pu_ 3 (some 8) (m_ 9 63) rfl rfl (ao HT_) ?_
      refine o1_ 6 (some 11) (m_ 9 127) rfl rfl (oo HT_) (fun K hK => ?_)
      refine gs_ rfl Tryd.func64 (strconv_FormatInt.calls _ _ _ _ A5.out (tt GT)) ag ?_
      intro w14 hb
      replace BK278 := bb BK278 hb
      replace HB := bs HB hb
      (try clear hb)
      refine hK.out _ _ ⟨ct BK278 0, ct BK278 1⟩ (fun hHeld => ?_)
      clear hK K
      refine nr_ (some 11) ?_
      refine pu_ 7 (some 12) (m_ 9 255) rfl rfl (ao HT_) ?_
      refine pu_ 8 (some 2) (m_ 9 511) rfl rfl (ao HT_) ?_
      refine done_ (done_of HT_.out (by kernel_rfl)) ?_
      try go_wp2
      go_ret
      exact ⟨ae, bf HB⟩
    · rw [if_neg c6] at H
      exact absurd H (by simp)
  · rw [if_neg c4] at H
    exact absurd H (by simp)

/-! ### carrefourlaw02_awake: function 15 -/
theorem carrefourlaw02_awake.calls (k : Nat)  (r : Bool) (w : World) (h : carrefourlaw02_awake.f k  = some r) (hT : TabOK w) :
    Calls Tryd.prog 15 #[] w fun e w' => e = .returned (.bool r) ∧ Below w.heap.size w w' := by
  have GT := Aside0.mk hT
  clear hT
  have hu23 := Tryd.underlying23
  have HB := Aside0.mk (Below.refl w.heap.size w)
  have H : ((frac_Add.f k 1 6 1 10).bind fun bt283 => ((frac_Add.f k 1 4611686018427387904 1 4611686018427387903).bind fun bt287 => (if bt283.2.2 = 0 then (if (bt283.1 == 4 && (bt283.2.1 == 15)) = true then (if bt287.2.2 = 2 then ((frac_Floor.f k (-1) 2).bind fun t291 => (if t291 = (-1) then ((frac_Print.f k bt283.1 bt283.2.1).bind fun t292 => (some (t292.toList == ([52, 47, 49, 53] : List UInt8)))) else (some false))) else (some false)) else (some false)) else (some false)))) = some r := h
  clear h
  replace H := bi_ H; obtain ⟨⟨t283, t284, t285⟩, A1, H⟩ := H
  (try dsimp only at H)
  replace H := bi_ H; obtain ⟨⟨t287, t288, t289⟩, A2, H⟩ := H
  (try dsimp only at H)
  by_cases c3 : t285 = 0
  · rw [if_pos c3] at H
    have c3b0 : (t285 == 0) = true := beq_iff_eq.mpr c3
    have c3b1 : (t285 != 0) = false := bne_eq_false_iff_eq.mpr c3
    clear c3
    by_cases c4 : (t283 == 4 && (t284 == 15)) = true
    · rw [if_pos c4] at H
      have c4b0 : (t283 == 4 && (t284 == 15)) = true := c4
      (try (have c4b1 : decide (t283 = 4 && (t284 == 15)) = true := by simpa using c4))
      (try (have c4b2 : (t283 == 4 && (t284 == 15)) = true := by simpa using c4))
      clear c4
      by_cases c5 : t289 = 2
      · rw [if_pos c5] at H
        have c5b0 : (t289 == 2) = true := beq_iff_eq.mpr c5
        have c5b1 : (t289 != 2) = false := bne_eq_false_iff_eq.mpr c5
        clear c5
        replace H := bi_ H; obtain ⟨t291, A6, H⟩ := H
        (try dsimp only at H)
        by_cases c7 : t291 = (-1)
        · rw [if_pos c7] at H
          have c7b0 : (t291 == (-1)) = true := beq_iff_eq.mpr c7
          have c7b1 : (t291 != (-1)) = false := bne_eq_false_iff_eq.mpr c7
          clear c7
          replace H := bi_ H; obtain ⟨t292, A8, H⟩ := H
          (try dsimp only at H)
          obtain rfl := Option.some.inj H
          go_enter Tryd.func15, Tryd.ntmps15
          go_wp2_with (first | ((with_reducible refine gc 10 rfl ?_); refine gm_ (some 8) rfl rfl Tryd.func10 (frac_Add.calls _ _ _ _ _ _ _ _ _ A1.out (tt GT)) ag ?_; intro w9 hb; replace HB := bs HB hb; (try clear hb)) | ((with_reducible refine gd 1 rfl ?_); refine bx_ 1 23 #[.int .i64 0, .int .i64 0] rfl rfl ?_; intro gb286 hg w10 BK286 hb; have GE286 := bz HB hg; replace HB := bs HB hb; clear hb hg; have hcz11 := k2 BK286) | ((with_reducible refine gc 10 rfl ?_); refine gm_ (some 14) rfl rfl Tryd.func10 (frac_Add.calls _ _ _ _ _ _ _ _ _ A2.out (tt GT)) ag ?_; intro w12 hb; replace BK286 := bp_ #[.int .i64 t283, .int .i64 t284] BK286 hb; replace HB := bs HB hb; (try clear hb)) | ((with_reducible refine gd 3 rfl ?_); refine bx_ 3 23 #[.int .i64 0, .int .i64 0] rfl rfl ?_; intro gb290 hg w13 BK290 hb; have GE290 := bz HB hg; have ⟨NB286_290, NB290_286⟩ := nb BK286 hg; replace BK286 := bb BK286 hb; replace HB := bs HB hb; clear hb hg; have hnb14 := nn NB290_286; have hcz15 := k2 BK290; have hcz16 := k2 BK286) | (go_at_call 27; (with_reducible refine (frac_Floor.calls _ _ _ _ _ A6.out (tt GT)).mono ?_); rintro e w17 ⟨rfl, hb⟩; replace BK286 := bb BK286 hb; replace BK290 := bp_ #[.int .i64 t287, .int .i64 t288] BK290 hb; replace HB := bs HB hb; (try clear hb); have hcz18 := k2 BK286) | (go_at_call 31; (with_reducible refine (frac_Print.calls _ _ _ _ _ A8.out (tt GT)).mono ?_); rintro e w19 ⟨rfl, hb⟩; replace HB := bs HB hb; (try clear hb)))
          go_ret
          exact ⟨ae, bf HB⟩
        · rw [if_neg c7] at H
          have c7b0 : (t291 == (-1)) = false := beq_eq_false_iff_ne.mpr c7
          have c7b1 : (t291 != (-1)) = true := bne_iff_ne.mpr c7
          obtain rfl := Option.some.inj H
          go_enter Tryd.func15, Tryd.ntmps15
          go_wp2_with (first | ((with_reducible refine gc 10 rfl ?_); refine gm_ (some 8) rfl rfl Tryd.func10 (frac_Add.calls _ _ _ _ _ _ _ _ _ A1.out (tt GT)) ag ?_; intro w20 hb; replace HB := bs HB hb; (try clear hb)) | ((with_reducible refine gd 1 rfl ?_); refine bx_ 1 23 #[.int .i64 0, .int .i64 0] rfl rfl ?_; intro gb286 hg w21 BK286 hb; have GE286 := bz HB hg; replace HB := bs HB hb; clear hb hg; have hcz22 := k2 BK286) | ((with_reducible refine gc 10 rfl ?_); refine gm_ (some 14) rfl rfl Tryd.func10 (frac_Add.calls _ _ _ _ _ _ _ _ _ A2.out (tt GT)) ag ?_; intro w23 hb; replace BK286 := bp_ #[.int .i64 t283, .int .i64 t284] BK286 hb; replace HB := bs HB hb; (try clear hb)) | ((with_reducible refine gd 3 rfl ?_); refine bx_ 3 23 #[.int .i64 0, .int .i64 0] rfl rfl ?_; intro gb290 hg w24 BK290 hb; have GE290 := bz HB hg; have ⟨NB286_290, NB290_286⟩ := nb BK286 hg; replace BK286 := bb BK286 hb; replace HB := bs HB hb; clear hb hg; have hnb25 := nn NB290_286; have hcz26 := k2 BK290; have hcz27 := k2 BK286) | (go_at_call 27; (with_reducible refine (frac_Floor.calls _ _ _ _ _ A6.out (tt GT)).mono ?_); rintro e w28 ⟨rfl, hb⟩; replace BK290 := bp_ #[.int .i64 t287, .int .i64 t288] BK290 hb; replace HB := bs HB hb; (try clear hb)))
          go_ret
          exact ⟨ae, bf HB⟩
      · rw [if_neg c5] at H
        have c5b0 : (t289 == 2) = false := beq_eq_false_iff_ne.mpr c5
        have c5b1 : (t289 != 2) = true := bne_iff_ne.mpr c5
        obtain rfl := Option.some.inj H
        go_enter Tryd.func15, Tryd.ntmps15
        go_wp2_with (first | ((with_reducible refine gc 10 rfl ?_); refine gm_ (some 8) rfl rfl Tryd.func10 (frac_Add.calls _ _ _ _ _ _ _ _ _ A1.out (tt GT)) ag ?_; intro w29 hb; replace HB := bs HB hb; (try clear hb)) | ((with_reducible refine gd 1 rfl ?_); refine bx_ 1 23 #[.int .i64 0, .int .i64 0] rfl rfl ?_; intro gb286 hg w30 BK286 hb; have GE286 := bz HB hg; replace HB := bs HB hb; clear hb hg; have hcz31 := k2 BK286) | ((with_reducible refine gc 10 rfl ?_); refine gm_ (some 14) rfl rfl Tryd.func10 (frac_Add.calls _ _ _ _ _ _ _ _ _ A2.out (tt GT)) ag ?_; intro w32 hb; replace BK286 := bp_ #[.int .i64 t283, .int .i64 t284] BK286 hb; replace HB := bs HB hb; (try clear hb)) | ((with_reducible refine gd 3 rfl ?_); refine bx_ 3 23 #[.int .i64 0, .int .i64 0] rfl rfl ?_; intro gb290 hg w33 BK290 hb; have GE290 := bz HB hg; have ⟨NB286_290, NB290_286⟩ := nb BK286 hg; replace BK286 := bb BK286 hb; replace HB := bs HB hb; clear hb hg; have hnb34 := nn NB290_286; have hcz35 := k2 BK290; have hcz36 := k2 BK286))
        go_ret
        exact ⟨ae, bf HB⟩
    · rw [if_neg c4] at H
      have c4b0 : (t283 == 4 && (t284 == 15)) = false := by simpa using c4
      (try (have c4b1 : decide (t283 = 4 && (t284 == 15)) = false := by simpa using c4))
      (try (have c4b2 : (t283 == 4 && (t284 == 15)) = false := by simpa using c4))
      (try (have c4b3 : ¬ (t283 = 4 && (t284 == 15)) := by simpa using c4))
      clear c4
      obtain rfl := Option.some.inj H
      go_enter Tryd.func15, Tryd.ntmps15
      go_wp2_with (first | ((with_reducible refine gc 10 rfl ?_); refine gm_ (some 8) rfl rfl Tryd.func10 (frac_Add.calls _ _ _ _ _ _ _ _ _ A1.out (tt GT)) ag ?_; intro w37 hb; replace HB := bs HB hb; (try clear hb)) | ((with_reducible refine gd 1 rfl ?_); refine bx_ 1 23 #[.int .i64 0, .int .i64 0] rfl rfl ?_; intro gb286 hg w38 BK286 hb; have GE286 := bz HB hg; replace HB := bs HB hb; clear hb hg; have hcz39 := k2 BK286) | ((with_reducible refine gc 10 rfl ?_); refine gm_ (some 14) rfl rfl Tryd.func10 (frac_Add.calls _ _ _ _ _ _ _ _ _ A2.out (tt GT)) ag ?_; intro w40 hb; replace BK286 := bp_ #[.int .i64 t283, .int .i64 t284] BK286 hb; replace HB := bs HB hb; (try clear hb)) | ((with_reducible refine gd 3 rfl ?_); refine bx_ 3 23 #[.int .i64 0, .int .i64 0] rfl rfl ?_; intro gb290 hg w41 BK290 hb; have GE290 := bz HB hg; have ⟨NB286_290, NB290_286⟩ := nb BK286 hg; replace BK286 := bb BK286 hb; replace HB := bs HB hb; clear hb hg; have hnb42 := nn NB290_286; have hcz43 := k2 BK290; have hcz44 := k2 BK286))
      go_ret
      exact ⟨ae, bf HB⟩
  · rw [if_neg c3] at H
    have c3b0 : (t285 == 0) = false := beq_eq_false_iff_ne.mpr c3
    have c3b1 : (t285 != 0) = true := bne_iff_ne.mpr c3
    obtain rfl := Option.some.inj H
    go_enter Tryd.func15, Tryd.ntmps15
    go_wp2_with (first | ((with_reducible refine gc 10 rfl ?_); refine gm_ (some 8) rfl rfl Tryd.func10 (frac_Add.calls _ _ _ _ _ _ _ _ _ A1.out (tt GT)) ag ?_; intro w45 hb; replace HB := bs HB hb; (try clear hb)) | ((with_reducible refine gd 1 rfl ?_); refine bx_ 1 23 #[.int .i64 0, .int .i64 0] rfl rfl ?_; intro gb286 hg w46 BK286 hb; have GE286 := bz HB hg; replace HB := bs HB hb; clear hb hg; have hcz47 := k2 BK286) | ((with_reducible refine gc 10 rfl ?_); refine gm_ (some 14) rfl rfl Tryd.func10 (frac_Add.calls _ _ _ _ _ _ _ _ _ A2.out (tt GT)) ag ?_; intro w48 hb; replace BK286 := bp_ #[.int .i64 t283, .int .i64 t284] BK286 hb; replace HB := bs HB hb; (try clear hb)) | ((with_reducible refine gd 3 rfl ?_); refine bx_ 3 23 #[.int .i64 0, .int .i64 0] rfl rfl ?_; intro gb290 hg w49 BK290 hb; have GE290 := bz HB hg; have ⟨NB286_290, NB290_286⟩ := nb BK286 hg; replace HB := bs HB hb; clear hb hg; have hnb50 := nn NB290_286; have hcz51 := k2 BK290))
    go_ret
    exact ⟨ae, bf HB⟩

/-! ### frac_Sum: function 33 -/
theorem frac_Sum.calls (k : Nat) (A0 : Option Addr) (c0 : Nat) (l0 : List (S23)) (r1 : Int) (r2 : Int) (r3 : Int) (w : World) (hr0 : Kd.C k23 w A0 l0.length l0) (hc0 : l0.length ≤ c0) (h : frac_Sum.f k l0 = some (r1, r2, r3)) (hT : TabOK w) :
    Calls Tryd.prog 33 #[.slice A0 l0.length c0] w fun e w' => e = .returned (.tuple #[.agg #[.int .i64 r1, .int .i64 r2], .int .i64 r3]) ∧ Below w.heap.size w w' := by
  have GT := Aside0.mk hT
  clear hT
  have hu23 := Tryd.underlying23
  have HR0 := Aside0.mk hr0
  have HC0 := Aside0.mk hc0
  clear hr0 hc0
  have HB := Aside0.mk (Below.refl w.heap.size w)
  have H : ((frac_nought.f).bind fun bt294 => (frac_Sum.l0 k l0 (l0.length : Int) 0 bt294.1 bt294.2)) = some (r1, r2, r3) := h
  clear h
  replace H := bi_ H; obtain ⟨⟨t294, t295⟩, A2, H⟩ := H
  (try dsimp only at H)
  have H' := Aside0.mk H
  clear H
  go_enter Tryd.func33, Tryd.ntmps33
  go_wp2_with (first | ((with_reducible refine gd 2 rfl ?_); refine bx_ 2 23 #[.int .i64 0, .int .i64 0] rfl rfl ?_; intro gb293 hg w3 BK293 hb; have GE293 := bz HB hg; replace HB := bs HB hb; clear hb hg) | ((with_reducible refine gc 66 rfl ?_); refine gm_ (some 9) rfl rfl Tryd.func66 (frac_nought.calls _ _ _ A2.out) ag ?_; intro w4 hb; replace BK293 := bb BK293 hb; replace HB := bs HB hb; (try clear hb)) | ((with_reducible refine gd 4 rfl ?_); refine bx_ 4 23 #[.int .i64 0, .int .i64 0] rfl rfl ?_; intro gb296 hg w5 BK296 hb; have GE296 := bz HB hg; have ⟨NB293_296, NB296_293⟩ := nb BK293 hg; replace BK293 := bb BK293 hb; replace HB := bs HB hb; clear hb hg; have hnb6 := nn NB296_293; have hcz7 := k2 BK296))
  go_loopg [12] k (fun kq v12 w' => ∃ (x12_1 : Int) (x294000_1 : Int) (x294001_1 : Int) (x297000_1 : Int) (x297001_1 : Int), v12 = .int .i64 x12_1 ∧ Aside0 (frac_Sum.l0 kq l0 (l0.length : Int) x12_1 x297000_1 x297001_1 = some (r1, r2, r3)) ∧ Aside0 (kq ≤ k) ∧ Aside0 (w'.heap[gb293]? = some (.cells #[.int .i64 x294000_1, .int .i64 x294001_1] 23 (0, 0))) ∧ Aside0 (w'.heap[gb296]? = some (.cells #[.int .i64 x297000_1, .int .i64 x297001_1] 23 (0, 0))) ∧ Aside0 (Below w.heap.size w w'))
  case atStart => exact ⟨(0), (0), (0), (t294), (t295), (aq), H', ⟨Nat.le_refl _⟩, bu_ BK293, bq_ BK296, ⟨bf HB⟩⟩
  case round =>
    clear H'
    try clear p2
    try clear c3
    try clear c6
    try clear hcz7
    obtain ⟨x12_1, x294000_1, x294001_1, x297000_1, x297001_1, rfl, HA, HK1, BK293, BK296, HB⟩ := hrel
    cases gk with
    | zero => exact absurd HA.out (by simp [frac_Sum.l0])
    | succ k1 =>
      have H := HA.out
      clear HA
      simp only [frac_Sum.l0] at H
      by_cases c8 : x12_1 < (l0.length : Int)
      · rw [if_pos c8] at H
        have c8b0 : decide (x12_1 < (l0.length : Int)) = true := decide_eq_true c8
        clear c8
        by_cases c9 : 0 ≤ x12_1
        · rw [if_pos c9] at H
          have c9b0 : decide (0 ≤ x12_1) = true := decide_eq_true c9
          clear c9
          by_cases c10 : x12_1 < (l0.length : Int)
          · rw [if_pos c10] at H
            have c10b0 : decide (x12_1 < (l0.length : Int)) = true := decide_eq_true c10
            clear c10
            replace H := bi_ H; obtain ⟨⟨t299, t300, t301⟩, A11, H⟩ := H
            (try dsimp only at H)
            by_cases c12 : t301 = 0
            · rw [if_pos c12] at H
              have c12b0 : (t301 == 0) = true := beq_iff_eq.mpr c12
              have c12b1 : (t301 != 0) = false := bne_eq_false_iff_eq.mpr c12
              clear c12
              have H' := Aside0.mk H
              clear H
              have p297 : 0 ≤ (x12_1 : Int) := of_decide_eq_true (by first | (with_reducible assumption) | assumption)
              have q297 : x12_1 < (l0.length : Int) := of_decide_eq_true (by first | (with_reducible assumption) | assumption)
              obtain ⟨ad297, e297, hx297_0, hx297_1⟩ := at_T23 HR0.out x12_1 p297 q297
              cases e297
              replace hx297_0 := (HB.out.cell (World.block_lt_of_cell? w _ hx297_0)).trans hx297_0
              replace hx297_1 := (HB.out.cell (World.block_lt_of_cell? w _ hx297_1)).trans hx297_1
              replace p297 := eq_true p297
              replace q297 := eq_true q297
              go_wp2_with (first | ((with_reducible refine gd 6 rfl ?_); refine bx_ 6 23 #[.int .i64 0, .int .i64 0] rfl rfl ?_; intro gb298 hg w13 BK298 hb; have GE298 := bz HB hg; have ⟨NB293_298, NB298_293⟩ := nb BK293 hg; have ⟨NB296_298, NB298_296⟩ := nb BK296 hg; replace BK293 := bb BK293 hb; replace BK296 := bb BK296 hb; replace HB := bs HB hb; clear hb hg; have hnb14 := nn NB298_293; have hnb15 := nn NB298_296; have hcz16 := k2 BK298; have hnb17 := nn NB296_293; have hcz18 := k2 BK296) | ((with_reducible refine gc 10 rfl ?_); refine gm_ (some 19) rfl rfl Tryd.func10 (frac_Add.calls _ _ _ ((rd_T23 l0 x12_1).f0) ((rd_T23 l0 x12_1).f1) _ _ _ _ A11.out (tt GT)) ag ?_; intro w19 hb; replace BK293 := bb BK293 hb; replace BK296 := bb BK296 hb; replace BK298 := bp_ #[.int .i64 ((rd_T23 l0 x12_1).f0), .int .i64 ((rd_T23 l0 x12_1).f1)] BK298 hb; replace HB := bs HB hb; (try clear hb)) | ((with_reducible refine gd 7 rfl ?_); refine bx_ 7 23 #[.int .i64 0, .int .i64 0] rfl rfl ?_; intro gb302 hg w20 BK302 hb; have GE302 := bz HB hg; have ⟨NB293_302, NB302_293⟩ := nb BK293 hg; have ⟨NB296_302, NB302_296⟩ := nb BK296 hg; have ⟨NB298_302, NB302_298⟩ := nb BK298 hg; replace BK293 := bb BK293 hb; replace BK296 := bb BK296 hb; replace HB := bs HB hb; clear hb hg; have hnb21 := nn NB302_293; have hnb22 := nn NB302_296; have hnb23 := nn NB302_298; have hcz24 := k2 BK302; have hcz25 := k2 BK296))
              go_roundg k1
              case measure => have := HK1.out; omega
              case rel => exact ⟨(wrap64 (x12_1 + 1)), (x294000_1), (x294001_1), (t299), (t300), (aq), H', ⟨by have := HK1.out; omega⟩, bu_ BK293, bq_ BK296, ⟨bf HB⟩⟩
            · rw [if_neg c12] at H
              have c12b0 : (t301 == 0) = false := beq_eq_false_iff_ne.mpr c12
              have c12b1 : (t301 != 0) = true := bne_iff_ne.mpr c12
              simp only [Option.some.injEq, Prod.mk.injEq] at H
              obtain ⟨rfl, rfl, rfl⟩ := H
              have p297 : 0 ≤ (x12_1 : Int) := of_decide_eq_true (by first | (with_reducible assumption) | assumption)
              have q297 : x12_1 < (l0.length : Int) := of_decide_eq_true (by first | (with_reducible assumption) | assumption)
              obtain ⟨ad297, e297, hx297_0, hx297_1⟩ := at_T23 HR0.out x12_1 p297 q297
              cases e297
              replace hx297_0 := (HB.out.cell (World.block_lt_of_cell? w _ hx297_0)).trans hx297_0
              replace hx297_1 := (HB.out.cell (World.block_lt_of_cell? w _ hx297_1)).trans hx297_1
              replace p297 := eq_true p297
              replace q297 := eq_true q297
              go_wp2_with (first | ((with_reducible refine gd 6 rfl ?_); refine bx_ 6 23 #[.int .i64 0, .int .i64 0] rfl rfl ?_; intro gb298 hg w26 BK298 hb; have GE298 := bz HB hg; have ⟨NB293_298, NB298_293⟩ := nb BK293 hg; have ⟨NB296_298, NB298_296⟩ := nb BK296 hg; replace BK293 := bb BK293 hb; replace BK296 := bb BK296 hb; replace HB := bs HB hb; clear hb hg; have hnb27 := nn NB298_293; have hnb28 := nn NB298_296; have hcz29 := k2 BK298; have hnb30 := nn NB296_293; have hcz31 := k2 BK296) | ((with_reducible refine gc 10 rfl ?_); refine gm_ (some 19) rfl rfl Tryd.func10 (frac_Add.calls _ _ _ ((rd_T23 l0 x12_1).f0) ((rd_T23 l0 x12_1).f1) _ _ _ _ A11.out (tt GT)) ag ?_; intro w32 hb; replace BK293 := bb BK293 hb; replace BK296 := bb BK296 hb; replace BK298 := bp_ #[.int .i64 ((rd_T23 l0 x12_1).f0), .int .i64 ((rd_T23 l0 x12_1).f1)] BK298 hb; replace HB := bs HB hb; (try clear hb)) | ((with_reducible refine gd 7 rfl ?_); refine bx_ 7 23 #[.int .i64 0, .int .i64 0] rfl rfl ?_; intro gb302 hg w33 BK302 hb; have GE302 := bz HB hg; have ⟨NB293_302, NB302_293⟩ := nb BK293 hg; have ⟨NB296_302, NB302_296⟩ := nb BK296 hg; have ⟨NB298_302, NB302_298⟩ := nb BK298 hg; replace BK293 := bb BK293 hb; replace BK296 := bb BK296 hb; replace HB := bs HB hb; clear hb hg; have hnb34 := nn NB302_293; have hnb35 := nn NB302_296; have hnb36 := nn NB302_298; have hcz37 := k2 BK302; have hcz38 := k2 BK293))
              refine bodyPost_ret (results_ct rfl _ _ gb293 23 #[.int .i64 0, .int .i64 0] (0, 0) _ rfl (br_ BK293) Tryd.underlying23 rfl (by kernel_rfl)) rfl ?_
              exact ⟨ae, bf HB⟩
          · rw [if_neg c10] at H
            exact absurd H (by simp)
        · rw [if_neg c9] at H
          exact absurd H (by simp)
      · rw [if_neg c8] at H
        have c8b0 : decide (x12_1 < (l0.length : Int)) = false := decide_eq_false c8
        clear c8
        simp only [Option.some.injEq, Prod.mk.injEq] at H
        obtain ⟨rfl, rfl, rfl⟩ := H
        have hnb39 := nn NB296_293
        have hcz40 := k2 BK296
        have hcz41 := k2 BK293
        go_wp2
        refine bodyPost_ret (results_ct rfl _ _ gb293 23 #[.int .i64 x297000_1, .int .i64 x297001_1] (0, 0) _ rfl (br_ BK293) Tryd.underlying23 rfl (by kernel_rfl)) rfl ?_
        exact ⟨ae, bf HB⟩

/-! ### carrefourref01_Size: function 43 -/
theorem carrefourref01_Size.calls (a0 : Int) (r : Int) (w : World) (h : carrefourref01_Size.f a0 = some r) :
    Calls Tryd.prog 43 #[.int .i64 a0] w fun e w' => e = .returned (.int .u64 r) ∧ Drawn0 w w' := by
  have H : (if a0 < 0 then (some (IntKind.u64.wrap (-(IntKind.u64.wrap (a0))))) else (some (IntKind.u64.wrap (a0)))) = some r := h
  clear h
  by_cases c2 : a0 < 0
  · rw [if_pos c2] at H
    have c2b0 : decide (a0 < 0) = true := decide_eq_true c2
    clear c2
    obtain rfl := Option.some.inj H
    go_enter Tryd.func43, Tryd.ntmps43
    go_wp2
    go_ret
    exact ⟨aq, dr⟩
  · rw [if_neg c2] at H
    have c2b0 : decide (a0 < 0) = false := decide_eq_false c2
    clear c2
    obtain rfl := Option.some.inj H
    go_enter Tryd.func43, Tryd.ntmps43
    go_wp2
    go_ret
    exact ⟨aq, dr⟩

/-! ### carrefourref02_gcd: function 53 -/
theorem carrefourref02_gcd.calls (k : Nat) (a0 : Int) (a1 : Int) (r : Int) (w : World) (h : carrefourref02_gcd.f k a0 a1 = some r) :
    Calls Tryd.prog 53 #[.int .u64 a0, .int .u64 a1] w fun e w' => e = .returned (.int .u64 r) ∧ Drawn0 w w' := by
  have H : (carrefourref02_gcd.l0 k a0 a1) = some r := h
  clear h
  have H' := Aside0.mk H
  clear H
  go_enter Tryd.func53, Tryd.ntmps53
  go_wp2
  go_loopg [0, 1] k (fun kq v0 v1 w' => ∃ (x0_1 : Int) (x1_1 : Int), v0 = .int .u64 x0_1 ∧ v1 = .int .u64 x1_1 ∧ Aside0 (carrefourref02_gcd.l0 kq x0_1 x1_1 = some r) ∧ Aside0 (kq ≤ k) ∧ Drawn0 w w')
  case atStart => exact ⟨(a0), (a1), (aq), (aq), H', ⟨Nat.le_refl _⟩, dr⟩
  case round =>
    clear H'
    try clear p2
    obtain ⟨x0_1, x1_1, rfl, rfl, HA, HK1, ⟨m1, rfl⟩⟩ := hrel
    cases gk with
    | zero => exact absurd HA.out (by simp [carrefourref02_gcd.l0])
    | succ k1 =>
      have H := HA.out
      clear HA
      simp only [carrefourref02_gcd.l0] at H
      by_cases c3 : x1_1 = 0
      · rw [if_pos c3] at H
        have c3b0 : (x1_1 == 0) = true := beq_iff_eq.mpr c3
        have c3b1 : (x1_1 != 0) = false := bne_eq_false_iff_eq.mpr c3
        clear c3
        obtain rfl := Option.some.inj H
        go_wp2
        go_ret
        exact ⟨aq, dr⟩
      · rw [if_neg c3] at H
        have c3b0 : (x1_1 == 0) = false := beq_eq_false_iff_ne.mpr c3
        have c3b1 : (x1_1 != 0) = true := bne_iff_ne.mpr c3
        have H' := Aside0.mk H
        clear H
        go_wp2
        go_roundg k1
        case measure => have := HK1.out; omega
        case rel => exact ⟨(x1_1), (Int.tmod x0_1 x1_1), (aq), (aq), H', ⟨by have := HK1.out; omega⟩, dr⟩

/-! ### carrefourref01_Signed: function 75 -/
theorem carrefourref01_Signed.calls (k : Nat) (a0 : Int) (a1 : Bool) (r1 : Int) (r2 : Int) (w : World) (h : carrefourref01_Signed.f k a0 a1 = some (r1, r2)) :
    Calls Tryd.prog 75 #[.int .u64 a0, .bool a1] w fun e w' => e = .returned (.tuple #[.int .i64 r1, .int .i64 r2]) ∧ Drawn0 w w' := by
  have H : (if a0 = 9223372036854775808 then (carrefourref01_Signed.j0 k a0 a1 a1) else (carrefourref01_Signed.j0 k a0 a1 false)) = some (r1, r2) := h
  clear h
  have HC3 := Aside0.mk H
  clear H
  go_enter Tryd.func75, Tryd.ntmps75
  go_upto_region 1 with (fail)
  go_cut [10] (fun v10 wc => ∃ (kq : Nat) (x10_2 : Bool), v10 = .bool x10_2 ∧ Aside0 (carrefourref01_Signed.j0 kq a0 a1 x10_2 = some (r1, r2)) ∧ Aside0 (kq ≤ k) ∧ Drawn0 w wc)
  case first =>
    have H := HC3.out
    clear HC3
    by_cases c4 : a0 = 9223372036854775808
    · rw [if_pos c4] at H
      have c4b0 : (a0 == 9223372036854775808) = true := beq_iff_eq.mpr c4
      have c4b1 : (a0 != 9223372036854775808) = false := bne_eq_false_iff_eq.mpr c4
      clear c4
      (first | rw [c4b0] | (simp only [i64_w, i32_w]; rw [c4b0]) | skip)
      have H' := Aside0.mk H
      clear H
      go_wp2
      go_meet
      case rel => exact ⟨_, (a1), (aq), H', ⟨by first | omega | exact Nat.le_refl _⟩, dr⟩
    · rw [if_neg c4] at H
      have c4b0 : (a0 == 9223372036854775808) = false := beq_eq_false_iff_ne.mpr c4
      have c4b1 : (a0 != 9223372036854775808) = true := bne_iff_ne.mpr c4
      (first | rw [c4b0] | (simp only [i64_w, i32_w]; rw [c4b0]) | skip)
      have H' := Aside0.mk H
      clear H
      go_wp2
      go_meet
      case rel => exact ⟨_, (false), (aq), H', ⟨by first | omega | exact Nat.le_refl _⟩, dr⟩
  case rest =>
    clear HC3
    try clear p2
    try clear c4
    try clear c4b0
    try clear c4b1
    obtain ⟨kq, x10_2, rfl, HA, HJ2, ⟨mc2, rfl⟩⟩ := hcut
    cases kq with
    | zero => exact absurd HA.out (by simp [carrefourref01_Signed.j0])
    | succ kj2 =>
      have H := HA.out
      clear HA
      simp only [carrefourref01_Signed.j0] at H
      by_cases c5 : x10_2 = true
      · subst c5
        have H1 : (some ((-9223372036854775808), 0)) = some (r1, r2) := by rw [if_pos rfl] at H; exact H
        clear H
        have H := H1
        clear H1
        simp only [Option.some.injEq, Prod.mk.injEq] at H
        obtain ⟨rfl, rfl⟩ := H
        go_wp2
        go_ret2
        exact ⟨aq, dr⟩
      · replace c5 := Bool.eq_false_iff.mpr c5
        subst c5
        have H1 : (if a0 > 9223372036854775807 then (some (0, 2)) else (if a1 = true then (some (wrap64 (-(wrap64 (a0))), 0)) else (some (wrap64 (a0), 0)))) = some (r1, r2) := by rw [if_neg (show ¬ (false = true) by decide)] at H; exact H
        clear H
        have H := H1
        clear H1
        by_cases c6 : a0 > 9223372036854775807
        · rw [if_pos c6] at H
          have c6b0 : decide (9223372036854775807 < a0) = true := decide_eq_true c6
          clear c6
          simp only [Option.some.injEq, Prod.mk.injEq] at H
          obtain ⟨rfl, rfl⟩ := H
          go_wp2
          go_ret2
          exact ⟨aq, dr⟩
        · rw [if_neg c6] at H
          have c6b0 : decide (9223372036854775807 < a0) = false := decide_eq_false c6
          clear c6
          by_cases c7 : a1 = true
          · subst c7
            have H1 : (some (wrap64 (-(wrap64 (a0))), 0)) = some (r1, r2) := by rw [if_pos rfl] at H; exact H
            clear H
            have H := H1
            clear H1
            simp only [Option.some.injEq, Prod.mk.injEq] at H
            obtain ⟨rfl, rfl⟩ := H
            go_wp2
            go_ret2
            exact ⟨aq, dr⟩
          · replace c7 := Bool.eq_false_iff.mpr c7
            subst c7
            have H1 : (some (wrap64 (a0), 0)) = some (r1, r2) := by rw [if_neg (show ¬ (false = true) by decide)] at H; exact H
            clear H
            have H := H1
            clear H1
            simp only [Option.some.injEq, Prod.mk.injEq] at H
            obtain ⟨rfl, rfl⟩ := H
            go_wp2
            go_ret2
            exact ⟨aq, dr⟩

end Go.Proofs.YtjgnaccamakpdaaDoor.X
