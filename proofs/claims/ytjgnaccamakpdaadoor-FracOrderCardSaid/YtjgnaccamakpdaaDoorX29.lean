/- Walks: each '.calls' says that the Go function comes to what its Lean function tells. Conditions: as each theorem's head says. -/
import Derived.Test.YtjgnaccamakpdaaDoorXD
import Derived.Test.YtjgnaccamakpdaaDoorX0
import Derived.Test.YtjgnaccamakpdaaDoorX8
import Derived.Test.YtjgnaccamakpdaaDoorX11
import Derived.Test.YtjgnaccamakpdaaDoorX12
import Derived.Test.YtjgnaccamakpdaaDoorX13
import Derived.Test.YtjgnaccamakpdaaDoorX19
import Derived.Test.YtjgnaccamakpdaaDoorX28
namespace Go.Proofs.YtjgnaccamakpdaaDoor.X
open Go.RowKit Go.Proofs.YtjgnaccamakpdaaDoorW.PrintWords Go.Proofs.YtjgnaccamakpdaaDoorW.PrintLast Go.Proofs.YtjgnaccamakpdaaDoorW.PrintMore
attribute [local go_sem] max2_int min2_int max_two min_two max_three min_three max_four min_four   -- for this text's walks alone
set_option linter.unusedVariables false
set_option maxHeartbeats 8000000
set_option maxRecDepth 100000
set_option linter.unusedSimpArgs false

/-! ### frac_Cmp: function 25 -/
theorem frac_Cmp.calls (k : Nat) (a0_0 : Int) (a0_1 : Int) (a1_0 : Int) (a1_1 : Int) (r : Int) (w : World) (h : frac_Cmp.f k a0_0 a0_1 a1_0 a1_1 = some r) (hT : TabOK w) :
    Calls Tryd.prog 25 #[.agg #[.int .i64 a0_0, .int .i64 a0_1], .agg #[.int .i64 a1_0, .int .i64 a1_1]] w fun e w' => e = .returned (.int .i64 r) ∧ Below w.heap.size w w' := by
  have GT := Aside0.mk hT
  clear hT
  have hu23 := Tryd.underlying23
  have HB := Aside0.mk (Below.refl w.heap.size w)
  have H : ((frac_norm.f k a0_0 a0_1).bind fun bt898 => ((frac_norm.f k a1_0 a1_1).bind fun bt900 => ((whole_Compare.f k bt898.1 bt900.2 bt900.1 bt898.2).bind fun t902 => (some t902)))) = some r := h
  clear h
  replace H := bi_ H; obtain ⟨⟨t898, t899⟩, A3, H⟩ := H
  (try dsimp only at H)
  replace H := bi_ H; obtain ⟨⟨t900, t901⟩, A4, H⟩ := H
  (try dsimp only at H)
  replace H := bi_ H; obtain ⟨t902, A5, H⟩ := H
  (try dsimp only at H)
  obtain rfl := Option.some.inj H
  go_enter Tryd.func25, Tryd.ntmps25
  try go_wp2_with (first | ((with_reducible refine gd 2 rfl ?_); refine bx_ 2 23 #[.int .i64 a0_0, .int .i64 a0_1] rfl rfl ?_; intro gb896 hg w6 BK896 hb; have GE896 := bz HB hg; replace HB := bs HB hb; clear hb hg) | ((with_reducible refine gd 3 rfl ?_); refine bx_ 3 23 #[.int .i64 a1_0, .int .i64 a1_1] rfl rfl ?_; intro gb897 hg w7 BK897 hb; have GE897 := bz HB hg; have ⟨NB896_897, NB897_896⟩ := nb BK896 hg; replace BK896 := bb BK896 hb; replace HB := bs HB hb; clear hb hg))
  replace BK896 := Aside0.mk (blk_drew BK896.out)
  replace BK897 := Aside0.mk (blk_drew BK897.out)
  replace HB := Aside0.mk (below_drew1 HB.out)
  refine start_ (n := 6) (S := fun w' => c_ w' gb896 0 (.int .i64 a0_0) ∧ c_ w' gb896 1 (.int .i64 a0_1) ∧ c_ w' gb897 0 (.int .i64 a1_0) ∧ c_ w' gb897 1 (.int .i64 a1_1)) (ds := [4, 5]) (m_ 6 0) (by kernel_rfl) rfl rfl ⟨ct BK896 0, ct BK896 1, ct BK897 0, ct BK897 1⟩ (fun hHeld => ?_)
  generalize w7.drew = w8 at BK896 BK897 HB hHeld ⊢
  refine tk_ 0 (some 5) (m_ 6 1) rfl rfl (by kernel_rfl) hHeld ?_
  refine tk_ 2 (some 7) (m_ 6 5) rfl rfl (by kernel_rfl) hHeld ?_
  refine o1_ 1 (some 6) (m_ 6 7) rfl rfl (by kernel_rfl) (fun K hK => ?_)
  refine gs_ rfl Tryd.func56 (frac_norm.calls _ _ _ _ _ _ A3.out (tt GT)) ag ?_
  intro w9 hb
  replace BK896 := bb BK896 hb
  replace BK897 := bb BK897 hb
  replace HB := bs HB hb
  (try clear hb)
  refine hK.out _ _ ⟨ct BK896 0, ct BK896 1, ct BK897 0, ct BK897 1⟩ (fun hHeld => ?_)
  clear hK K
  refine nr_ (some 6) ?_
  refine o1_ 3 (some 8) (m_ 6 15) rfl rfl (by kernel_rfl) (fun K hK => ?_)
  refine gs_ rfl Tryd.func56 (frac_norm.calls _ _ _ _ _ _ A4.out (tt GT)) ag ?_
  intro w10 hb
  replace BK896 := bb BK896 hb
  replace BK897 := bb BK897 hb
  replace HB := bs HB hb
  (try clear hb)
  refine hK.out _ _ ⟨ct BK896 0, ct BK896 1, ct BK897 0, ct BK897 1⟩ (fun hHeld => ?_)
  clear hK K
  refine nr_ (some 8) ?_
  refine last_ (i := 4) (N := none) (m_ 6 31) rfl rfl (by kernel_rfl) (by decide) (fun K hK => ?_)
  have hs11 : c_ w10 gb896 0 (.int .i64 a0_0) := ct BK896 0
  have hfs11 := blk_frozen BK896.out 0
  have hns11_1 := nn NB897_896
  have hs12 : c_ w10 gb896 1 (.int .i64 a0_1) := ct BK896 1
  have hfs12 := blk_frozen BK896.out 1
  have hns12_1 := nn NB897_896
  refine skip_ (w1 := ?_) (by rfl) rfl ?_ ?_
  rotate_left
  · go_simp
    rfl
  refine hK.out _ _ ?_
  clear hK K
  refine last_ (i := 5) (N := none) (m_ 6 63) rfl rfl (by kernel_rfl) (by decide) (fun K hK => ?_)
  have hs13 : c_ w10 gb897 0 (.int .i64 a1_0) := ct BK897 0
  have hfs13 := blk_frozen BK897.out 0
  have hns13_0 := nn NB896_897
  have hs14 : c_ w10 gb897 1 (.int .i64 a1_1) := ct BK897 1
  have hfs14 := blk_frozen BK897.out 1
  have hns14_0 := nn NB896_897
  refine skip_ (w1 := ?_) (by rfl) rfl ?_ ?_
  rotate_left
  · go_simp
    rfl
  refine hK.out _ _ ?_
  clear hK K
  refine done_ (by kernel_rfl) ?_
  have hnb15 := nn NB896_897
  have hcz16 := k2 BK896
  have hcz17 := k2 BK897
  try go_wp2_with (first | ((with_reducible refine gc 58 rfl ?_); refine gm_ (some 17) rfl rfl Tryd.func58 (whole_Compare.calls _ _ _ _ _ _ _ A5.out) ag ?_; intro w18 hb; replace BK896 := bp_ #[.int .i64 t898, .int .i64 t899] BK896 hb; replace BK897 := bp_ #[.int .i64 t900, .int .i64 t901] BK897 hb; replace HB := bs HB hb; (try clear hb)))
  go_ret
  exact ⟨ae, bf HB⟩

/-! ### carrefourref01_sign: function 83 -/
theorem carrefourref01_sign.calls (k : Nat) (a0 : Int) (a1 : Int) (r : Int) (w : World) (h : carrefourref01_sign.f k a0 a1 = some r) :
    Calls Tryd.prog 83 #[.int .i64 a0, .int .i64 a1] w fun e w' => e = .returned (.int .i64 r) ∧ Drawn0 w w' := by
  have H : (if a0 = 0 then (carrefourref01_sign.j0 k a0 a1 true) else (carrefourref01_sign.j0 k a0 a1 (a1 == 0))) = some r := h
  clear h
  have HC3 := Aside0.mk H
  clear H
  go_enter Tryd.func83, Tryd.ntmps83
  go_upto_region 1 with (fail)
  go_cut [10] (fun v10 wc => ∃ (kq : Nat) (x10_2 : Bool), v10 = .bool x10_2 ∧ Aside0 (carrefourref01_sign.j0 kq a0 a1 x10_2 = some r) ∧ Aside0 (kq ≤ k) ∧ Drawn0 w wc)
  case first =>
    have H := HC3.out
    clear HC3
    by_cases c4 : a0 = 0
    · rw [if_pos c4] at H
      have c4b0 : (a0 == 0) = true := beq_iff_eq.mpr c4
      have c4b1 : (a0 != 0) = false := bne_eq_false_iff_eq.mpr c4
      clear c4
      (first | rw [c4b0] | (simp only [i64_w, i32_w]; rw [c4b0]) | skip)
      have H' := Aside0.mk H
      clear H
      go_wp2
      go_meet
      case rel => exact ⟨_, (true), (aq), H', ⟨by first | omega | exact Nat.le_refl _⟩, dr⟩
    · rw [if_neg c4] at H
      have c4b0 : (a0 == 0) = false := beq_eq_false_iff_ne.mpr c4
      have c4b1 : (a0 != 0) = true := bne_iff_ne.mpr c4
      (first | rw [c4b0] | (simp only [i64_w, i32_w]; rw [c4b0]) | skip)
      have H' := Aside0.mk H
      clear H
      go_wp2
      go_meet
      case rel => exact ⟨_, ((a1 == 0)), (aq), H', ⟨by first | omega | exact Nat.le_refl _⟩, dr⟩
  case rest =>
    clear HC3
    try clear p2
    try clear c4
    try clear c4b0
    try clear c4b1
    obtain ⟨kq, x10_2, rfl, HA, HJ2, ⟨mc2, rfl⟩⟩ := hcut
    cases kq with
    | zero => exact absurd HA.out (by simp [carrefourref01_sign.j0])
    | succ kj2 =>
      have H := HA.out
      clear HA
      simp only [carrefourref01_sign.j0] at H
      by_cases c5 : x10_2 = true
      · subst c5
        have H1 : (some 0) = some r := by rw [if_pos rfl] at H; exact H
        clear H
        have H := H1
        clear H1
        obtain rfl := Option.some.inj H
        go_wp2
        go_ret
        exact ⟨aq, dr⟩
      · replace c5 := Bool.eq_false_iff.mpr c5
        subst c5
        have H1 : (if ((decide (a0 < 0)) != (decide (a1 < 0))) = true then (some (-1)) else (some 1)) = some r := by rw [if_neg (show ¬ (false = true) by decide)] at H; exact H
        clear H
        have H := H1
        clear H1
        by_cases c6 : ((decide (a0 < 0)) != (decide (a1 < 0))) = true
        · rw [if_pos c6] at H
          have c6b0 : ((decide (a0 < 0)) != (decide (a1 < 0))) = true := c6
          (try (have c6b1 : decide ((decide (a0 < 0)) = (decide (a1 < 0))) = false := by simpa using c6))
          (try (have c6b2 : ((decide (a0 < 0)) == (decide (a1 < 0))) = false := by simpa using c6))
          (try (have c6b3 : ¬ ((decide (a0 < 0)) = (decide (a1 < 0))) := by simpa using c6))
          clear c6
          obtain rfl := Option.some.inj H
          go_wp2
          go_ret
          exact ⟨aq, dr⟩
        · rw [if_neg c6] at H
          have c6b0 : ((decide (a0 < 0)) != (decide (a1 < 0))) = false := by simpa using c6
          (try (have c6b1 : decide ((decide (a0 < 0)) = (decide (a1 < 0))) = true := by simpa using c6))
          (try (have c6b2 : ((decide (a0 < 0)) == (decide (a1 < 0))) = true := by simpa using c6))
          clear c6
          obtain rfl := Option.some.inj H
          go_wp2
          go_ret
          exact ⟨aq, dr⟩

/-! ### carrefourref01_Compare: function 59 -/
theorem carrefourref01_Compare.calls (k : Nat) (a0 : Int) (a1 : Int) (a2 : Int) (a3 : Int) (r : Int) (w : World) (h : carrefourref01_Compare.f k a0 a1 a2 a3 = some r) :
    Calls Tryd.prog 59 #[.int .i64 a0, .int .i64 a1, .int .i64 a2, .int .i64 a3] w fun e w' => e = .returned (.int .i64 r) ∧ Below w.heap.size w w' := by
  have HB := Aside0.mk (Below.refl w.heap.size w)
  have H : ((carrefourref01_sign.f k a0 a1).bind fun t903 => ((carrefourref01_sign.f k a2 a3).bind fun t904 => (if t903 < t904 then (some (-1)) else (if t903 > t904 then (some 1) else ((carrefourref01_Size.f a0).bind fun t905 => (if t905 < 2147483648 then ((carrefourref01_Size.f a1).bind fun t906 => (if t906 < 2147483648 then ((carrefourref01_Size.f a2).bind fun t907 => (if t907 < 2147483648 then ((carrefourref01_Size.f a3).bind fun t908 => (carrefourref01_Compare.j0 k a0 a1 a2 a3 t903 (decide (t908 < 2147483648)))) else (carrefourref01_Compare.j0 k a0 a1 a2 a3 t903 false))) else (carrefourref01_Compare.j0 k a0 a1 a2 a3 t903 false))) else (carrefourref01_Compare.j0 k a0 a1 a2 a3 t903 false))))))) = some r := h
  clear h
  replace H := bi_ H; obtain ⟨t903, A5, H⟩ := H
  (try dsimp only at H)
  replace H := bi_ H; obtain ⟨t904, A6, H⟩ := H
  (try dsimp only at H)
  by_cases c7 : t903 < t904
  · rw [if_pos c7] at H
    have c7b0 : decide (t903 < t904) = true := decide_eq_true c7
    clear c7
    obtain rfl := Option.some.inj H
    go_enter Tryd.func59, Tryd.ntmps59
    go_wp2_with (first | ((with_reducible refine gc 83 rfl ?_); refine gm_ (some 13) rfl rfl Tryd.func83 (carrefourref01_sign.calls _ _ _ _ _ A5.out) ag ?_; rintro w' ⟨nd, rfl⟩) | ((with_reducible refine gc 83 rfl ?_); refine gm_ (some 16) rfl rfl Tryd.func83 (carrefourref01_sign.calls _ _ _ _ _ A6.out) ag ?_; rintro w' ⟨nd, rfl⟩))
    go_ret
    exact ⟨ae, bf HB⟩
  · rw [if_neg c7] at H
    have c7b0 : decide (t903 < t904) = false := decide_eq_false c7
    clear c7
    by_cases c8 : t903 > t904
    · rw [if_pos c8] at H
      have c8b0 : decide (t904 < t903) = true := decide_eq_true c8
      clear c8
      obtain rfl := Option.some.inj H
      go_enter Tryd.func59, Tryd.ntmps59
      go_wp2_with (first | ((with_reducible refine gc 83 rfl ?_); refine gm_ (some 13) rfl rfl Tryd.func83 (carrefourref01_sign.calls _ _ _ _ _ A5.out) ag ?_; rintro w' ⟨nd, rfl⟩) | ((with_reducible refine gc 83 rfl ?_); refine gm_ (some 16) rfl rfl Tryd.func83 (carrefourref01_sign.calls _ _ _ _ _ A6.out) ag ?_; rintro w' ⟨nd, rfl⟩))
      go_ret
      exact ⟨ae, bf HB⟩
    · rw [if_neg c8] at H
      have c8b0 : decide (t904 < t903) = false := decide_eq_false c8
      clear c8
      have HC9 := Aside0.mk H
      clear H
      go_enter Tryd.func59, Tryd.ntmps59
      go_upto_region 7 with (first | ((with_reducible refine gc 83 rfl ?_); refine gm_ (some 13) rfl rfl Tryd.func83 (carrefourref01_sign.calls _ _ _ _ _ A5.out) ag ?_; rintro w' ⟨nd, rfl⟩) | ((with_reducible refine gc 83 rfl ?_); refine gm_ (some 16) rfl rfl Tryd.func83 (carrefourref01_sign.calls _ _ _ _ _ A6.out) ag ?_; rintro w' ⟨nd, rfl⟩))
      (try simp only [Act.put, si, s0, s1])
      go_cut [40] (fun v40 wc => ∃ (kq : Nat) (x40_8 : Bool), v40 = .bool x40_8 ∧ Aside0 (carrefourref01_Compare.j0 kq a0 a1 a2 a3 t903 x40_8 = some r) ∧ Aside0 (kq ≤ k) ∧ Aside0 (Below w.heap.size w wc))
      case first =>
        have H := HC9.out
        clear HC9
        replace H := bi_ H; obtain ⟨t905, A10, H⟩ := H
        (try dsimp only at H)
        by_cases c11 : t905 < 2147483648
        · rw [if_pos c11] at H
          have c11b0 : decide (t905 < 2147483648) = true := decide_eq_true c11
          clear c11
          (first | rw [c11b0] | (simp only [i64_w, i32_w]; rw [c11b0]) | skip)
          replace H := bi_ H; obtain ⟨t906, A12, H⟩ := H
          (try dsimp only at H)
          by_cases c13 : t906 < 2147483648
          · rw [if_pos c13] at H
            have c13b0 : decide (t906 < 2147483648) = true := decide_eq_true c13
            clear c13
            replace H := bi_ H; obtain ⟨t907, A14, H⟩ := H
            (try dsimp only at H)
            by_cases c15 : t907 < 2147483648
            · rw [if_pos c15] at H
              have c15b0 : decide (t907 < 2147483648) = true := decide_eq_true c15
              clear c15
              replace H := bi_ H; obtain ⟨t908, A16, H⟩ := H
              (try dsimp only at H)
              have H' := Aside0.mk H
              clear H
              go_wp2_with (first | ((with_reducible refine gc 43 rfl ?_); refine gm_ (some 24) rfl rfl Tryd.func43 (carrefourref01_Size.calls _ _ _ A10.out) ag ?_; rintro w' ⟨nd, rfl⟩) | (go_at_call 43; (with_reducible refine (carrefourref01_Size.calls _ _ _ A12.out).mono ?_); rintro e w' ⟨rfl, ⟨nd, rfl⟩⟩) | (go_at_call 43; (with_reducible refine (carrefourref01_Size.calls _ _ _ A14.out).mono ?_); rintro e w' ⟨rfl, ⟨nd, rfl⟩⟩) | (go_at_call 43; (with_reducible refine (carrefourref01_Size.calls _ _ _ A16.out).mono ?_); rintro e w' ⟨rfl, ⟨nd, rfl⟩⟩))
              go_meet
              case rel => exact ⟨_, (decide (t908 < 2147483648)), (aq), H', ⟨by first | omega | exact Nat.le_refl _⟩, ⟨bf HB⟩⟩
            · rw [if_neg c15] at H
              have c15b0 : decide (t907 < 2147483648) = false := decide_eq_false c15
              clear c15
              have H' := Aside0.mk H
              clear H
              go_wp2_with (first | ((with_reducible refine gc 43 rfl ?_); refine gm_ (some 24) rfl rfl Tryd.func43 (carrefourref01_Size.calls _ _ _ A10.out) ag ?_; rintro w' ⟨nd, rfl⟩) | (go_at_call 43; (with_reducible refine (carrefourref01_Size.calls _ _ _ A12.out).mono ?_); rintro e w' ⟨rfl, ⟨nd, rfl⟩⟩) | (go_at_call 43; (with_reducible refine (carrefourref01_Size.calls _ _ _ A14.out).mono ?_); rintro e w' ⟨rfl, ⟨nd, rfl⟩⟩))
              go_meet
              case rel => exact ⟨_, (false), (aq), H', ⟨by first | omega | exact Nat.le_refl _⟩, ⟨bf HB⟩⟩
          · rw [if_neg c13] at H
            have c13b0 : decide (t906 < 2147483648) = false := decide_eq_false c13
            clear c13
            have H' := Aside0.mk H
            clear H
            go_wp2_with (first | ((with_reducible refine gc 43 rfl ?_); refine gm_ (some 24) rfl rfl Tryd.func43 (carrefourref01_Size.calls _ _ _ A10.out) ag ?_; rintro w' ⟨nd, rfl⟩) | (go_at_call 43; (with_reducible refine (carrefourref01_Size.calls _ _ _ A12.out).mono ?_); rintro e w' ⟨rfl, ⟨nd, rfl⟩⟩))
            go_meet
            case rel => exact ⟨_, (false), (aq), H', ⟨by first | omega | exact Nat.le_refl _⟩, ⟨bf HB⟩⟩
        · rw [if_neg c11] at H
          have c11b0 : decide (t905 < 2147483648) = false := decide_eq_false c11
          clear c11
          (first | rw [c11b0] | (simp only [i64_w, i32_w]; rw [c11b0]) | skip)
          have H' := Aside0.mk H
          clear H
          go_wp2_with (first | ((with_reducible refine gc 43 rfl ?_); refine gm_ (some 24) rfl rfl Tryd.func43 (carrefourref01_Size.calls _ _ _ A10.out) ag ?_; rintro w' ⟨nd, rfl⟩))
          go_meet
          case rel => exact ⟨_, (false), (aq), H', ⟨by first | omega | exact Nat.le_refl _⟩, ⟨bf HB⟩⟩
      case rest =>
        clear HC9
        try clear c1
        try clear p2
        try clear c4
        try clear c5
        try clear c7
        try clear c7b0
        try clear c8
        try clear c8b0
        try clear c11
        try clear c11b0
        try clear c13
        try clear c13b0
        try clear c15
        try clear c15b0
        obtain ⟨kq, x40_8, rfl, HA, HJ8, HB⟩ := hcut
        cases kq with
        | zero => exact absurd HA.out (by simp [carrefourref01_Compare.j0])
        | succ kj8 =>
          have H := HA.out
          clear HA
          simp only [carrefourref01_Compare.j0] at H
          by_cases c17 : x40_8 = true
          · subst c17
            have H1 : (if (wrap64 (a0 * a1)) < (wrap64 (a2 * a3)) then (some (-1)) else (if (wrap64 (a0 * a1)) > (wrap64 (a2 * a3)) then (some 1) else (some 0))) = some r := by rw [if_pos rfl] at H; exact H
            clear H
            have H := H1
            clear H1
            by_cases c18 : (wrap64 (a0 * a1)) < (wrap64 (a2 * a3))
            · rw [if_pos c18] at H
              have c18b0 : decide ((wrap64 (a0 * a1)) < (wrap64 (a2 * a3))) = true := decide_eq_true c18
              clear c18
              obtain rfl := Option.some.inj H
              go_wp2
              go_ret
              exact ⟨ae, bf HB⟩
            · rw [if_neg c18] at H
              have c18b0 : decide ((wrap64 (a0 * a1)) < (wrap64 (a2 * a3))) = false := decide_eq_false c18
              clear c18
              by_cases c19 : (wrap64 (a0 * a1)) > (wrap64 (a2 * a3))
              · rw [if_pos c19] at H
                have c19b0 : decide ((wrap64 (a2 * a3)) < (wrap64 (a0 * a1))) = true := decide_eq_true c19
                clear c19
                obtain rfl := Option.some.inj H
                go_wp2
                go_ret
                exact ⟨ae, bf HB⟩
              · rw [if_neg c19] at H
                have c19b0 : decide ((wrap64 (a2 * a3)) < (wrap64 (a0 * a1))) = false := decide_eq_false c19
                clear c19
                obtain rfl := Option.some.inj H
                go_wp2
                go_ret
                exact ⟨ae, bf HB⟩
          · replace c17 := Bool.eq_false_iff.mpr c17
            subst c17
            have H1 : ((carrefourref01_Size.f a0).bind fun t909 => ((carrefourref01_Size.f a1).bind fun t910 => ((carrefourref01_Times.f kj8 t909 t910).bind fun t911 => ((carrefourref01_Size.f a2).bind fun t914 => ((carrefourref01_Size.f a3).bind fun t915 => ((carrefourref01_Times.f kj8 t914 t915).bind fun t916 => ((carrefourref01_Order.f kj8 t911 t916).bind fun t919 => (some (wrap64 (t903 * t919)))))))))) = some r := by rw [if_neg (show ¬ (false = true) by decide)] at H; exact H
            clear H
            have H := H1
            clear H1
            replace H := bi_ H; obtain ⟨t909, A20, H⟩ := H
            (try dsimp only at H)
            replace H := bi_ H; obtain ⟨t910, A21, H⟩ := H
            (try dsimp only at H)
            replace H := bi_ H; obtain ⟨t911, A22, H⟩ := H
            (try dsimp only at H)
            replace H := bi_ H; obtain ⟨t914, A23, H⟩ := H
            (try dsimp only at H)
            replace H := bi_ H; obtain ⟨t915, A24, H⟩ := H
            (try dsimp only at H)
            replace H := bi_ H; obtain ⟨t916, A25, H⟩ := H
            (try dsimp only at H)
            replace H := bi_ H; obtain ⟨t919, A26, H⟩ := H
            (try dsimp only at H)
            obtain rfl := Option.some.inj H
            go_wp2_with (first | ((with_reducible refine gc 43 rfl ?_); refine gm_ (some 57) rfl rfl Tryd.func43 (carrefourref01_Size.calls _ _ _ A20.out) ag ?_; rintro w' ⟨nd, rfl⟩) | ((with_reducible refine gc 43 rfl ?_); refine gm_ (some 59) rfl rfl Tryd.func43 (carrefourref01_Size.calls _ _ _ A21.out) ag ?_; rintro w' ⟨nd, rfl⟩) | ((with_reducible refine gc 42 rfl ?_); refine gl_ (some 60) rfl rfl Tryd.func42 ((carrefourref01_Times.calls kj8 _ _ _ _ A22.out).mono ?_) ag; rintro e w27 ⟨v912, rfl, ho0, hb⟩; refine ⟨_, rfl, ?_⟩; have HO913 := Aside0.mk (Kd.R_lower ho0 (below_size (bf HB))); replace HB := bs HB hb; (try clear hb); (try clear ho0)) | ((with_reducible refine gc 43 rfl ?_); refine gm_ (some 62) rfl rfl Tryd.func43 (carrefourref01_Size.calls _ _ _ A23.out) ag ?_; rintro w' ⟨nd, rfl⟩) | ((with_reducible refine gc 43 rfl ?_); refine gm_ (some 64) rfl rfl Tryd.func43 (carrefourref01_Size.calls _ _ _ A24.out) ag ?_; rintro w' ⟨nd, rfl⟩) | ((with_reducible refine gc 42 rfl ?_); refine gl_ (some 65) rfl rfl Tryd.func42 ((carrefourref01_Times.calls kj8 _ _ _ _ A25.out).mono ?_) ag; rintro e w28 ⟨v917, rfl, ho0, hb⟩; refine ⟨_, rfl, ?_⟩; have HO918 := Aside0.mk (Kd.R_lower (Kd.R_new' ho0 (rl HO913)) (below_size (bf HB))); replace HO913 := re_ HO913 (Kd.R_base ho0) hb; replace HB := bs HB hb; (try clear hb); (try clear ho0); obtain ⟨Ao29, co29, eo29⟩ := Kd.R_slice HO913.out; subst eo29; obtain ⟨Ao30, co30, eo30⟩ := Kd.R_slice HO918.out; subst eo30) | ((with_reducible refine gc 46 rfl ?_); refine gm_ (some 66) rfl rfl Tryd.func46 (carrefourref01_Order.calls kj8 _ _ _ _ _ _ _ _ ?side1 ?side2 ?side3 ?side4 A26.out) ag ?_; (case side1 => exact rc HO913); (case side2 => exact (Kd.R_reads' HO913.out).2.1); (case side3 => exact rc HO918); (case side4 => exact (Kd.R_reads' HO918.out).2.1); intro w31 hb; replace HO913 := rb HO913 hb; replace HO918 := rb HO918 hb; replace HB := bs HB hb; (try clear hb)))
            go_ret
            exact ⟨ae, bf HB⟩

/-! ### carrefourref02_Cmp: function 26 -/
theorem carrefourref02_Cmp.calls (k : Nat) (a0_0 : Int) (a0_1 : Int) (a1_0 : Int) (a1_1 : Int) (r : Int) (w : World) (h : carrefourref02_Cmp.f k a0_0 a0_1 a1_0 a1_1 = some r) :
    Calls Tryd.prog 26 #[.agg #[.int .i64 a0_0, .int .i64 a0_1], .agg #[.int .i64 a1_0, .int .i64 a1_1]] w fun e w' => e = .returned (.int .i64 r) ∧ Below w.heap.size w w' := by
  have hu23 := Tryd.underlying23
  have HB := Aside0.mk (Below.refl w.heap.size w)
  have H : ((carrefourref02_Norm.f k a0_0 a0_1).bind fun bt922 => ((carrefourref02_Norm.f k a1_0 a1_1).bind fun bt924 => ((carrefourref01_Compare.f k bt922.1 bt924.2 bt924.1 bt922.2).bind fun t926 => (some t926)))) = some r := h
  clear h
  replace H := bi_ H; obtain ⟨⟨t922, t923⟩, A3, H⟩ := H
  (try dsimp only at H)
  replace H := bi_ H; obtain ⟨⟨t924, t925⟩, A4, H⟩ := H
  (try dsimp only at H)
  replace H := bi_ H; obtain ⟨t926, A5, H⟩ := H
  (try dsimp only at H)
  obtain rfl := Option.some.inj H
  go_enter Tryd.func26, Tryd.ntmps26
  go_wp2_with (first | ((with_reducible refine gd 2 rfl ?_); refine bx_ 2 23 #[.int .i64 a0_0, .int .i64 a0_1] rfl rfl ?_; intro gb920 hg w6 BK920 hb; have GE920 := bz HB hg; replace HB := bs HB hb; clear hb hg) | ((with_reducible refine gd 3 rfl ?_); refine bx_ 3 23 #[.int .i64 a1_0, .int .i64 a1_1] rfl rfl ?_; intro gb921 hg w7 BK921 hb; have GE921 := bz HB hg; have ⟨NB920_921, NB921_920⟩ := nb BK920 hg; replace BK920 := bb BK920 hb; replace HB := bs HB hb; clear hb hg; have hnb8 := nn NB920_921; have hcz9 := k2 BK920) | ((with_reducible refine gc 39 rfl ?_); refine gm_ (some 6) rfl rfl Tryd.func39 (carrefourref02_Norm.calls _ _ _ _ _ _ A3.out) ag ?_; intro w10 hb; replace BK920 := bb BK920 hb; replace BK921 := bb BK921 hb; replace HB := bs HB hb; (try clear hb); have hcz11 := k2 BK920; have hcz12 := k2 BK921) | ((with_reducible refine gc 39 rfl ?_); refine gm_ (some 8) rfl rfl Tryd.func39 (carrefourref02_Norm.calls _ _ _ _ _ _ A4.out) ag ?_; intro w13 hb; replace BK920 := bp_ #[.int .i64 t922, .int .i64 t923] BK920 hb; replace BK921 := bb BK921 hb; replace HB := bs HB hb; (try clear hb); have hcz14 := k2 BK921; have hcz15 := k2 BK920) | ((with_reducible refine gc 59 rfl ?_); refine gm_ (some 17) rfl rfl Tryd.func59 (carrefourref01_Compare.calls _ _ _ _ _ _ _ A5.out) ag ?_; intro w16 hb; replace BK921 := bp_ #[.int .i64 t924, .int .i64 t925] BK921 hb; replace HB := bs HB hb; (try clear hb)))
  go_ret
  exact ⟨ae, bf HB⟩

/-! ### carrefourref01_Floor: function 61 -/
theorem carrefourref01_Floor.calls (k : Nat) (a0 : Int) (a1 : Int) (r1 : Int) (r2 : Int) (w : World) (h : carrefourref01_Floor.f k a0 a1 = some (r1, r2)) :
    Calls Tryd.prog 61 #[.int .i64 a0, .int .i64 a1] w fun e w' => e = .returned (.tuple #[.int .i64 r1, .int .i64 r2]) ∧ Drawn0 w w' := by
  have H : (if a1 = 0 then (some (0, 3)) else (if a0 = (-9223372036854775808) then (carrefourref01_Floor.j0 k a0 a1 (a1 == (-1))) else (carrefourref01_Floor.j0 k a0 a1 false))) = some (r1, r2) := h
  clear h
  by_cases c3 : a1 = 0
  · rw [if_pos c3] at H
    have c3b0 : (a1 == 0) = true := beq_iff_eq.mpr c3
    have c3b1 : (a1 != 0) = false := bne_eq_false_iff_eq.mpr c3
    clear c3
    simp only [Option.some.injEq, Prod.mk.injEq] at H
    obtain ⟨rfl, rfl⟩ := H
    go_enter Tryd.func61, Tryd.ntmps61
    go_wp2
    go_ret2
    exact ⟨aq, dr⟩
  · rw [if_neg c3] at H
    have c3b0 : (a1 == 0) = false := beq_eq_false_iff_ne.mpr c3
    have c3b1 : (a1 != 0) = true := bne_iff_ne.mpr c3
    have HC4 := Aside0.mk H
    clear H
    go_enter Tryd.func61, Tryd.ntmps61
    go_upto_region 3 with (fail)
    go_cut [14] (fun v14 wc => ∃ (kq : Nat) (x14_3 : Bool), v14 = .bool x14_3 ∧ Aside0 (carrefourref01_Floor.j0 kq a0 a1 x14_3 = some (r1, r2)) ∧ Aside0 (kq ≤ k) ∧ Drawn0 w wc)
    case first =>
      have H := HC4.out
      clear HC4
      by_cases c5 : a0 = (-9223372036854775808)
      · rw [if_pos c5] at H
        have c5b0 : (a0 == (-9223372036854775808)) = true := beq_iff_eq.mpr c5
        have c5b1 : (a0 != (-9223372036854775808)) = false := bne_eq_false_iff_eq.mpr c5
        clear c5
        (first | rw [c5b0] | (simp only [i64_w, i32_w]; rw [c5b0]) | skip)
        have H' := Aside0.mk H
        clear H
        go_wp2
        go_meet
        case rel => exact ⟨_, ((a1 == (-1))), (aq), H', ⟨by first | omega | exact Nat.le_refl _⟩, dr⟩
      · rw [if_neg c5] at H
        have c5b0 : (a0 == (-9223372036854775808)) = false := beq_eq_false_iff_ne.mpr c5
        have c5b1 : (a0 != (-9223372036854775808)) = true := bne_iff_ne.mpr c5
        (first | rw [c5b0] | (simp only [i64_w, i32_w]; rw [c5b0]) | skip)
        have H' := Aside0.mk H
        clear H
        go_wp2
        go_meet
        case rel => exact ⟨_, (false), (aq), H', ⟨by first | omega | exact Nat.le_refl _⟩, dr⟩
    case rest =>
      clear HC4
      try clear p2
      try clear c3
      try clear c3b0
      try clear c3b1
      try clear c5
      try clear c5b0
      try clear c5b1
      obtain ⟨kq, x14_3, rfl, HA, HJ3, ⟨mc3, rfl⟩⟩ := hcut
      cases kq with
      | zero => exact absurd HA.out (by simp [carrefourref01_Floor.j0])
      | succ kj3 =>
        have H := HA.out
        clear HA
        simp only [carrefourref01_Floor.j0] at H
        by_cases c6 : x14_3 = true
        · subst c6
          have H1 : (some (0, 2)) = some (r1, r2) := by rw [if_pos rfl] at H; exact H
          clear H
          have H := H1
          clear H1
          simp only [Option.some.injEq, Prod.mk.injEq] at H
          obtain ⟨rfl, rfl⟩ := H
          go_wp2
          go_ret2
          exact ⟨aq, dr⟩
        · replace c6 := Bool.eq_false_iff.mpr c6
          subst c6
          have H1 : (if a1 = 0 then (none) else (if (Int.tmod a0 a1) = 0 then (some (wrap64 (Int.tdiv a0 a1), 0)) else (if ((decide (a0 < 0)) != (decide (a1 < 0))) = true then (some (wrap64 ((wrap64 (Int.tdiv a0 a1)) - 1), 0)) else (some (wrap64 (Int.tdiv a0 a1), 0))))) = some (r1, r2) := by rw [if_neg (show ¬ (false = true) by decide)] at H; exact H
          clear H
          have H := H1
          clear H1
          by_cases c7 : a1 = 0
          · rw [if_pos c7] at H
            exact absurd H (by simp)
          · rw [if_neg c7] at H
            have c7b0 : (a1 == 0) = false := beq_eq_false_iff_ne.mpr c7
            have c7b1 : (a1 != 0) = true := bne_iff_ne.mpr c7
            by_cases c8 : (Int.tmod a0 a1) = 0
            · rw [if_pos c8] at H
              have c8b0 : ((Int.tmod a0 a1) == 0) = true := beq_iff_eq.mpr c8
              have c8b1 : ((Int.tmod a0 a1) != 0) = false := bne_eq_false_iff_eq.mpr c8
              clear c8
              simp only [Option.some.injEq, Prod.mk.injEq] at H
              obtain ⟨rfl, rfl⟩ := H
              go_wp2
              go_ret2
              exact ⟨aq, dr⟩
            · rw [if_neg c8] at H
              have c8b0 : ((Int.tmod a0 a1) == 0) = false := beq_eq_false_iff_ne.mpr c8
              have c8b1 : ((Int.tmod a0 a1) != 0) = true := bne_iff_ne.mpr c8
              by_cases c9 : ((decide (a0 < 0)) != (decide (a1 < 0))) = true
              · rw [if_pos c9] at H
                have c9b0 : ((decide (a0 < 0)) != (decide (a1 < 0))) = true := c9
                (try (have c9b1 : decide ((decide (a0 < 0)) = (decide (a1 < 0))) = false := by simpa using c9))
                (try (have c9b2 : ((decide (a0 < 0)) == (decide (a1 < 0))) = false := by simpa using c9))
                (try (have c9b3 : ¬ ((decide (a0 < 0)) = (decide (a1 < 0))) := by simpa using c9))
                clear c9
                simp only [Option.some.injEq, Prod.mk.injEq] at H
                obtain ⟨rfl, rfl⟩ := H
                go_wp2
                go_ret2
                exact ⟨aq, dr⟩
              · rw [if_neg c9] at H
                have c9b0 : ((decide (a0 < 0)) != (decide (a1 < 0))) = false := by simpa using c9
                (try (have c9b1 : decide ((decide (a0 < 0)) = (decide (a1 < 0))) = true := by simpa using c9))
                (try (have c9b2 : ((decide (a0 < 0)) == (decide (a1 < 0))) = true := by simpa using c9))
                clear c9
                simp only [Option.some.injEq, Prod.mk.injEq] at H
                obtain ⟨rfl, rfl⟩ := H
                go_wp2
                go_ret2
                exact ⟨aq, dr⟩

/-! ### carrefourref02_Floor: function 28 -/
theorem carrefourref02_Floor.calls (k : Nat) (a0_0 : Int) (a0_1 : Int) (r : Int) (w : World) (h : carrefourref02_Floor.f k a0_0 a0_1 = some r) :
    Calls Tryd.prog 28 #[.agg #[.int .i64 a0_0, .int .i64 a0_1]] w fun e w' => e = .returned (.int .i64 r) ∧ Below w.heap.size w w' := by
  have hu23 := Tryd.underlying23
  have HB := Aside0.mk (Below.refl w.heap.size w)
  have H : ((carrefourref02_Norm.f k a0_0 a0_1).bind fun bt928 => ((carrefourref01_Floor.f k bt928.1 bt928.2).bind fun bt930 => (some bt930.1))) = some r := h
  clear h
  replace H := bi_ H; obtain ⟨⟨t928, t929⟩, A2, H⟩ := H
  (try dsimp only at H)
  replace H := bi_ H; obtain ⟨⟨t930, t931⟩, A3, H⟩ := H
  (try dsimp only at H)
  obtain rfl := Option.some.inj H
  go_enter Tryd.func28, Tryd.ntmps28
  go_wp2_with (first | ((with_reducible refine gd 1 rfl ?_); refine bx_ 1 23 #[.int .i64 a0_0, .int .i64 a0_1] rfl rfl ?_; intro gb927 hg w4 BK927 hb; have GE927 := bz HB hg; replace HB := bs HB hb; clear hb hg; have hcz5 := k2 BK927) | ((with_reducible refine gc 39 rfl ?_); refine gm_ (some 6) rfl rfl Tryd.func39 (carrefourref02_Norm.calls _ _ _ _ _ _ A2.out) ag ?_; intro w6 hb; replace BK927 := bb BK927 hb; replace HB := bs HB hb; (try clear hb); have hcz7 := k2 BK927) | ((with_reducible refine gc 61 rfl ?_); refine gm_ (some 12) rfl rfl Tryd.func61 (carrefourref01_Floor.calls _ _ _ _ _ _ A3.out) ag ?_; rintro w' ⟨nd, rfl⟩))
  go_ret
  exact ⟨ae, bf HB⟩

/-! ### whole_Ceil: function 62 -/
theorem whole_Ceil.calls (a0 : Int) (a1 : Int) (r1 : Int) (r2 : Int) (w : World) (h : whole_Ceil.f a0 a1 = some (r1, r2)) :
    Calls Tryd.prog 62 #[.int .i64 a0, .int .i64 a1] w fun e w' => e = .returned (.tuple #[.int .i64 r1, .int .i64 r2]) ∧ Drawn0 w w' := by
  have H : (if a1 = 0 then (some (0, 3)) else (if a1 = (-1) then ((whole_Neg.f a0).bind fun bt932 => (some (bt932.1, bt932.2))) else (if (Int.tmod a0 a1) = 0 then (some (wrap64 (Int.tdiv a0 a1), 0)) else (if ((decide ((Int.tmod a0 a1) < 0)) == (decide (a1 < 0))) = true then (some (wrap64 ((wrap64 (Int.tdiv a0 a1)) + 1), 0)) else (some (wrap64 (Int.tdiv a0 a1), 0)))))) = some (r1, r2) := h
  clear h
  by_cases c3 : a1 = 0
  · rw [if_pos c3] at H
    have c3b0 : (a1 == 0) = true := beq_iff_eq.mpr c3
    have c3b1 : (a1 != 0) = false := bne_eq_false_iff_eq.mpr c3
    clear c3
    simp only [Option.some.injEq, Prod.mk.injEq] at H
    obtain ⟨rfl, rfl⟩ := H
    go_enter Tryd.func62, Tryd.ntmps62
    go_wp2
    repeat (go_quiet (fail); try go_wp2)
    go_ret2
    exact ⟨aq, dr⟩
  · rw [if_neg c3] at H
    have c3b0 : (a1 == 0) = false := beq_eq_false_iff_ne.mpr c3
    have c3b1 : (a1 != 0) = true := bne_iff_ne.mpr c3
    by_cases c4 : a1 = (-1)
    · rw [if_pos c4] at H
      have c4b0 : (a1 == (-1)) = true := beq_iff_eq.mpr c4
      have c4b1 : (a1 != (-1)) = false := bne_eq_false_iff_eq.mpr c4
      clear c4
      replace H := bi_ H; obtain ⟨⟨t932, t933⟩, A5, H⟩ := H
      (try dsimp only at H)
      simp only [Option.some.injEq, Prod.mk.injEq] at H
      obtain ⟨rfl, rfl⟩ := H
      go_enter Tryd.func62, Tryd.ntmps62
      go_wp2_with (first | (go_at_call 84; (with_reducible refine (whole_Neg.calls _ _ _ _ A5.out).mono ?_); rintro e w' ⟨rfl, ⟨nd, rfl⟩⟩; (try first | exact ⟨rfl, _, World.drewN_drewN _ _ _⟩ | exact ⟨rfl, _, Eq.trans (World.drewN_drewN _ _ _) (congrArg (World.drewN _) (Nat.add_assoc _ _ _))⟩)))
      repeat (go_quiet (first | (go_at_call 84; (with_reducible refine (whole_Neg.calls _ _ _ _ A5.out).mono ?_); rintro e w' ⟨rfl, ⟨nd, rfl⟩⟩; (try first | exact ⟨rfl, _, World.drewN_drewN _ _ _⟩ | exact ⟨rfl, _, Eq.trans (World.drewN_drewN _ _ _) (congrArg (World.drewN _) (Nat.add_assoc _ _ _))⟩))); try go_wp2_with (first | (go_at_call 84; (with_reducible refine (whole_Neg.calls _ _ _ _ A5.out).mono ?_); rintro e w' ⟨rfl, ⟨nd, rfl⟩⟩; (try first | exact ⟨rfl, _, World.drewN_drewN _ _ _⟩ | exact ⟨rfl, _, Eq.trans (World.drewN_drewN _ _ _) (congrArg (World.drewN _) (Nat.add_assoc _ _ _))⟩))))
      go_ret2
      exact ⟨aq, dr⟩
    · rw [if_neg c4] at H
      have c4b0 : (a1 == (-1)) = false := beq_eq_false_iff_ne.mpr c4
      have c4b1 : (a1 != (-1)) = true := bne_iff_ne.mpr c4
      by_cases c6 : (Int.tmod a0 a1) = 0
      · rw [if_pos c6] at H
        have c6b0 : ((Int.tmod a0 a1) == 0) = true := beq_iff_eq.mpr c6
        have c6b1 : ((Int.tmod a0 a1) != 0) = false := bne_eq_false_iff_eq.mpr c6
        clear c6
        simp only [Option.some.injEq, Prod.mk.injEq] at H
        obtain ⟨rfl, rfl⟩ := H
        go_enter Tryd.func62, Tryd.ntmps62
        go_wp2
        repeat (go_quiet (fail); try go_wp2)
        go_ret2
        exact ⟨aq, dr⟩
      · rw [if_neg c6] at H
        have c6b0 : ((Int.tmod a0 a1) == 0) = false := beq_eq_false_iff_ne.mpr c6
        have c6b1 : ((Int.tmod a0 a1) != 0) = true := bne_iff_ne.mpr c6
        by_cases c7 : ((decide ((Int.tmod a0 a1) < 0)) == (decide (a1 < 0))) = true
        · rw [if_pos c7] at H
          have c7b0 : ((decide ((Int.tmod a0 a1) < 0)) == (decide (a1 < 0))) = true := c7
          (try (have c7b1 : decide ((decide ((Int.tmod a0 a1) < 0)) = (decide (a1 < 0))) = true := by simpa using c7))
          (try (have c7b2 : ((decide ((Int.tmod a0 a1) < 0)) == (decide (a1 < 0))) = true := by simpa using c7))
          clear c7
          simp only [Option.some.injEq, Prod.mk.injEq] at H
          obtain ⟨rfl, rfl⟩ := H
          go_enter Tryd.func62, Tryd.ntmps62
          go_wp2
          repeat (go_quiet (fail); try go_wp2)
          go_ret2
          exact ⟨aq, dr⟩
        · rw [if_neg c7] at H
          have c7b0 : ((decide ((Int.tmod a0 a1) < 0)) == (decide (a1 < 0))) = false := by simpa using c7
          (try (have c7b1 : decide ((decide ((Int.tmod a0 a1) < 0)) = (decide (a1 < 0))) = false := by simpa using c7))
          (try (have c7b2 : ((decide ((Int.tmod a0 a1) < 0)) == (decide (a1 < 0))) = false := by simpa using c7))
          (try (have c7b3 : ¬ ((decide ((Int.tmod a0 a1) < 0)) = (decide (a1 < 0))) := by simpa using c7))
          clear c7
          simp only [Option.some.injEq, Prod.mk.injEq] at H
          obtain ⟨rfl, rfl⟩ := H
          go_enter Tryd.func62, Tryd.ntmps62
          go_wp2
          repeat (go_quiet (fail); try go_wp2)
          go_ret2
          exact ⟨aq, dr⟩

end Go.Proofs.YtjgnaccamakpdaaDoor.X
