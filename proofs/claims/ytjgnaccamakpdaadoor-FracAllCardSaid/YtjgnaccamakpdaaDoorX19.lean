/- Walks: each '.calls' says that the Go function comes to what its Lean function tells. Conditions: as each theorem's head says. -/
import Derived.Test.YtjgnaccamakpdaaDoorXD
import Derived.Test.YtjgnaccamakpdaaDoorX0
import Derived.Test.YtjgnaccamakpdaaDoorX11
import Derived.Test.YtjgnaccamakpdaaDoorX12
import Derived.Test.YtjgnaccamakpdaaDoorX13
import Derived.Test.YtjgnaccamakpdaaDoorX14
import Derived.Test.YtjgnaccamakpdaaDoorX18
namespace Go.Proofs.YtjgnaccamakpdaaDoor.X
open Go.RowKit Go.Proofs.YtjgnaccamakpdaaDoorW.PrintWords Go.Proofs.YtjgnaccamakpdaaDoorW.PrintLast Go.Proofs.YtjgnaccamakpdaaDoorW.PrintMore
attribute [local go_sem] max2_int min2_int max_two min_two max_three min_three max_four min_four   -- for this text's walks alone
set_option linter.unusedVariables false
set_option maxHeartbeats 8000000
set_option maxRecDepth 100000
set_option linter.unusedSimpArgs false

/-! ### carrefourref01_Compare: function 59 -/
theorem carrefourref01_Compare.calls (k : Nat) (a0 : Int) (a1 : Int) (a2 : Int) (a3 : Int) (r : Int) (w : World) (h : carrefourref01_Compare.f k a0 a1 a2 a3 = some r) :
    Calls Tryd.prog 59 #[.int .i64 a0, .int .i64 a1, .int .i64 a2, .int .i64 a3] w fun e w' => e = .returned (.int .i64 r) ∧ Below w.heap.size w w' := by
  have HB := Aside0.mk (Below.refl w.heap.size w)
  have H : ((carrefourref01_sign.f k a0 a1).bind fun t557 => ((carrefourref01_sign.f k a2 a3).bind fun t558 => (if t557 < t558 then (some (-1)) else (if t557 > t558 then (some 1) else ((carrefourref01_Size.f a0).bind fun t559 => (if t559 < 2147483648 then ((carrefourref01_Size.f a1).bind fun t560 => (if t560 < 2147483648 then ((carrefourref01_Size.f a2).bind fun t561 => (if t561 < 2147483648 then ((carrefourref01_Size.f a3).bind fun t562 => (carrefourref01_Compare.j0 k a0 a1 a2 a3 t557 (decide (t562 < 2147483648)))) else (carrefourref01_Compare.j0 k a0 a1 a2 a3 t557 false))) else (carrefourref01_Compare.j0 k a0 a1 a2 a3 t557 false))) else (carrefourref01_Compare.j0 k a0 a1 a2 a3 t557 false))))))) = some r := h
  clear h
  replace H := bi_ H; obtain ⟨t557, A5, H⟩ := H
  (try dsimp only at H)
  replace H := bi_ H; obtain ⟨t558, A6, H⟩ := H
  (try dsimp only at H)
  by_cases c7 : t557 < t558
  · rw [if_pos c7] at H
    have c7b0 : decide (t557 < t558) = true := decide_eq_true c7
    clear c7
    obtain rfl := Option.some.inj H
    go_enter Tryd.func59, Tryd.ntmps59
    go_wp2_with (first | ((with_reducible refine gc 83 rfl ?_); refine gm_ (some 13) rfl rfl Tryd.func83 (carrefourref01_sign.calls _ _ _ _ _ A5.out) ag ?_; rintro w' ⟨nd, rfl⟩) | ((with_reducible refine gc 83 rfl ?_); refine gm_ (some 16) rfl rfl Tryd.func83 (carrefourref01_sign.calls _ _ _ _ _ A6.out) ag ?_; rintro w' ⟨nd, rfl⟩))
    go_ret
    exact ⟨ae, bf HB⟩
  · rw [if_neg c7] at H
    have c7b0 : decide (t557 < t558) = false := decide_eq_false c7
    clear c7
    by_cases c8 : t557 > t558
    · rw [if_pos c8] at H
      have c8b0 : decide (t558 < t557) = true := decide_eq_true c8
      clear c8
      obtain rfl := Option.some.inj H
      go_enter Tryd.func59, Tryd.ntmps59
      go_wp2_with (first | ((with_reducible refine gc 83 rfl ?_); refine gm_ (some 13) rfl rfl Tryd.func83 (carrefourref01_sign.calls _ _ _ _ _ A5.out) ag ?_; rintro w' ⟨nd, rfl⟩) | ((with_reducible refine gc 83 rfl ?_); refine gm_ (some 16) rfl rfl Tryd.func83 (carrefourref01_sign.calls _ _ _ _ _ A6.out) ag ?_; rintro w' ⟨nd, rfl⟩))
      go_ret
      exact ⟨ae, bf HB⟩
    · rw [if_neg c8] at H
      have c8b0 : decide (t558 < t557) = false := decide_eq_false c8
      clear c8
      have HC9 := Aside0.mk H
      clear H
      go_enter Tryd.func59, Tryd.ntmps59
      go_upto_region 7 with (first | ((with_reducible refine gc 83 rfl ?_); refine gm_ (some 13) rfl rfl Tryd.func83 (carrefourref01_sign.calls _ _ _ _ _ A5.out) ag ?_; rintro w' ⟨nd, rfl⟩) | ((with_reducible refine gc 83 rfl ?_); refine gm_ (some 16) rfl rfl Tryd.func83 (carrefourref01_sign.calls _ _ _ _ _ A6.out) ag ?_; rintro w' ⟨nd, rfl⟩))
      (try simp only [Act.put, si, s0, s1])
      go_cut [40] (fun v40 wc => ∃ (kq : Nat) (x40_8 : Bool), v40 = .bool x40_8 ∧ Aside0 (carrefourref01_Compare.j0 kq a0 a1 a2 a3 t557 x40_8 = some r) ∧ Aside0 (kq ≤ k) ∧ Aside0 (Below w.heap.size w wc))
      case first =>
        have H := HC9.out
        clear HC9
        replace H := bi_ H; obtain ⟨t559, A10, H⟩ := H
        (try dsimp only at H)
        by_cases c11 : t559 < 2147483648
        · rw [if_pos c11] at H
          have c11b0 : decide (t559 < 2147483648) = true := decide_eq_true c11
          clear c11
          (first | rw [c11b0] | (simp only [i64_w, i32_w]; rw [c11b0]) | skip)
          replace H := bi_ H; obtain ⟨t560, A12, H⟩ := H
          (try dsimp only at H)
          by_cases c13 : t560 < 2147483648
          · rw [if_pos c13] at H
            have c13b0 : decide (t560 < 2147483648) = true := decide_eq_true c13
            clear c13
            replace H := bi_ H; obtain ⟨t561, A14, H⟩ := H
            (try dsimp only at H)
            by_cases c15 : t561 < 2147483648
            · rw [if_pos c15] at H
              have c15b0 : decide (t561 < 2147483648) = true := decide_eq_true c15
              clear c15
              replace H := bi_ H; obtain ⟨t562, A16, H⟩ := H
              (try dsimp only at H)
              have H' := Aside0.mk H
              clear H
              go_wp2_with (first | ((with_reducible refine gc 43 rfl ?_); refine gm_ (some 24) rfl rfl Tryd.func43 (carrefourref01_Size.calls _ _ _ A10.out) ag ?_; rintro w' ⟨nd, rfl⟩) | (go_at_call 43; (with_reducible refine (carrefourref01_Size.calls _ _ _ A12.out).mono ?_); rintro e w' ⟨rfl, ⟨nd, rfl⟩⟩) | (go_at_call 43; (with_reducible refine (carrefourref01_Size.calls _ _ _ A14.out).mono ?_); rintro e w' ⟨rfl, ⟨nd, rfl⟩⟩) | (go_at_call 43; (with_reducible refine (carrefourref01_Size.calls _ _ _ A16.out).mono ?_); rintro e w' ⟨rfl, ⟨nd, rfl⟩⟩))
              go_meet
              case rel => exact ⟨_, (decide (t562 < 2147483648)), (aq), H', ⟨by first | omega | exact Nat.le_refl _⟩, ⟨bf HB⟩⟩
            · rw [if_neg c15] at H
              have c15b0 : decide (t561 < 2147483648) = false := decide_eq_false c15
              clear c15
              have H' := Aside0.mk H
              clear H
              go_wp2_with (first | ((with_reducible refine gc 43 rfl ?_); refine gm_ (some 24) rfl rfl Tryd.func43 (carrefourref01_Size.calls _ _ _ A10.out) ag ?_; rintro w' ⟨nd, rfl⟩) | (go_at_call 43; (with_reducible refine (carrefourref01_Size.calls _ _ _ A12.out).mono ?_); rintro e w' ⟨rfl, ⟨nd, rfl⟩⟩) | (go_at_call 43; (with_reducible refine (carrefourref01_Size.calls _ _ _ A14.out).mono ?_); rintro e w' ⟨rfl, ⟨nd, rfl⟩⟩))
              go_meet
              case rel => exact ⟨_, (false), (aq), H', ⟨by first | omega | exact Nat.le_refl _⟩, ⟨bf HB⟩⟩
          · rw [if_neg c13] at H
            have c13b0 : decide (t560 < 2147483648) = false := decide_eq_false c13
            clear c13
            have H' := Aside0.mk H
            clear H
            go_wp2_with (first | ((with_reducible refine gc 43 rfl ?_); refine gm_ (some 24) rfl rfl Tryd.func43 (carrefourref01_Size.calls _ _ _ A10.out) ag ?_; rintro w' ⟨nd, rfl⟩) | (go_at_call 43; (with_reducible refine (carrefourref01_Size.calls _ _ _ A12.out).mono ?_); rintro e w' ⟨rfl, ⟨nd, rfl⟩⟩))
            go_meet
            case rel => exact ⟨_, (false), (aq), H', ⟨by first | omega | exact Nat.le_refl _⟩, ⟨bf HB⟩⟩
        · rw [if_neg c11] at H
          have c11b0 : decide (t559 < 2147483648) = false := decide_eq_false c11
          clear c11
          (first | rw [c11b0] | (simp only [i64_w, i32_w]; rw [c11b0]) | skip)
          have H' := Aside0.mk H
          clear H
          go_wp2_with (first | ((with_reducible refine gc 43 rfl ?_); refine gm_ (some 24) rfl rfl Tryd.func43 (carrefourref01_Size.calls _ _ _ A10.out) ag ?_; rintro w' ⟨nd, rfl⟩))
          go_meet
          case rel => exact ⟨_, (false), (aq), H', ⟨by first | omega | exact Nat.le_refl _⟩, ⟨bf HB⟩⟩
      case rest =>
        clear HC9
        try clear c1
        try clear p2
        try clear c4
        try clear c5
        try clear c7
        try clear c7b0
        try clear c8
        try clear c8b0
        try clear c11
        try clear c11b0
        try clear c13
        try clear c13b0
        try clear c15
        try clear c15b0
        obtain ⟨kq, x40_8, rfl, HA, HJ8, HB⟩ := hcut
        cases kq with
        | zero => exact absurd HA.out (by simp [carrefourref01_Compare.j0])
        | succ kj8 =>
          have H := HA.out
          clear HA
          simp only [carrefourref01_Compare.j0] at H
          by_cases c17 : x40_8 = true
          · subst c17
            have H1 : (if (wrap64 (a0 * a1)) < (wrap64 (a2 * a3)) then (some (-1)) else (if (wrap64 (a0 * a1)) > (wrap64 (a2 * a3)) then (some 1) else (some 0))) = some r := by rw [if_pos rfl] at H; exact H
            clear H
            have H := H1
            clear H1
            by_cases c18 : (wrap64 (a0 * a1)) < (wrap64 (a2 * a3))
            · rw [if_pos c18] at H
              have c18b0 : decide ((wrap64 (a0 * a1)) < (wrap64 (a2 * a3))) = true := decide_eq_true c18
              clear c18
              obtain rfl := Option.some.inj H
              go_wp2
              go_ret
              exact ⟨ae, bf HB⟩
            · rw [if_neg c18] at H
              have c18b0 : decide ((wrap64 (a0 * a1)) < (wrap64 (a2 * a3))) = false := decide_eq_false c18
              clear c18
              by_cases c19 : (wrap64 (a0 * a1)) > (wrap64 (a2 * a3))
              · rw [if_pos c19] at H
                have c19b0 : decide ((wrap64 (a2 * a3)) < (wrap64 (a0 * a1))) = true := decide_eq_true c19
                clear c19
                obtain rfl := Option.some.inj H
                go_wp2
                go_ret
                exact ⟨ae, bf HB⟩
              · rw [if_neg c19] at H
                have c19b0 : decide ((wrap64 (a2 * a3)) < (wrap64 (a0 * a1))) = false := decide_eq_false c19
                clear c19
                obtain rfl := Option.some.inj H
                go_wp2
                go_ret
                exact ⟨ae, bf HB⟩
          · replace c17 := Bool.eq_false_iff.mpr c17
            subst c17
            have H1 : ((carrefourref01_Size.f a0).bind fun t563 => ((carrefourref01_Size.f a1).bind fun t564 => ((carrefourref01_Times.f kj8 t563 t564).bind fun t565 => ((carrefourref01_Size.f a2).bind fun t568 => ((carrefourref01_Size.f a3).bind fun t569 => ((carrefourref01_Times.f kj8 t568 t569).bind fun t570 => ((carrefourref01_Order.f kj8 t565 t570).bind fun t573 => (some (wrap64 (t557 * t573)))))))))) = some r := by rw [if_neg (show ¬ (false = true) by decide)] at H; exact H
            clear H
            have H := H1
            clear H1
            replace H := bi_ H; obtain ⟨t563, A20, H⟩ := H
            (try dsimp only at H)
            replace H := bi_ H; obtain ⟨t564, A21, H⟩ := H
            (try dsimp only at H)
            replace H := bi_ H; obtain ⟨t565, A22, H⟩ := H
            (try dsimp only at H)
            replace H := bi_ H; obtain ⟨t568, A23, H⟩ := H
            (try dsimp only at H)
            replace H := bi_ H; obtain ⟨t569, A24, H⟩ := H
            (try dsimp only at H)
            replace H := bi_ H; obtain ⟨t570, A25, H⟩ := H
            (try dsimp only at H)
            replace H := bi_ H; obtain ⟨t573, A26, H⟩ := H
            (try dsimp only at H)
            obtain rfl := Option.some.inj H
            go_wp2_with (first | ((with_reducible refine gc 43 rfl ?_); refine gm_ (some 57) rfl rfl Tryd.func43 (carrefourref01_Size.calls _ _ _ A20.out) ag ?_; rintro w' ⟨nd, rfl⟩) | ((with_reducible refine gc 43 rfl ?_); refine gm_ (some 59) rfl rfl Tryd.func43 (carrefourref01_Size.calls _ _ _ A21.out) ag ?_; rintro w' ⟨nd, rfl⟩) | ((with_reducible refine gc 42 rfl ?_); refine gl_ (some 60) rfl rfl Tryd.func42 ((carrefourref01_Times.calls kj8 _ _ _ _ A22.out).mono ?_) ag; rintro e w27 ⟨v566, rfl, ho0, hb⟩; refine ⟨_, rfl, ?_⟩; have HO567 := Aside0.mk (Kd.R_lower ho0 (below_size (bf HB))); replace HB := bs HB hb; (try clear hb); (try clear ho0)) | ((with_reducible refine gc 43 rfl ?_); refine gm_ (some 62) rfl rfl Tryd.func43 (carrefourref01_Size.calls _ _ _ A23.out) ag ?_; rintro w' ⟨nd, rfl⟩) | ((with_reducible refine gc 43 rfl ?_); refine gm_ (some 64) rfl rfl Tryd.func43 (carrefourref01_Size.calls _ _ _ A24.out) ag ?_; rintro w' ⟨nd, rfl⟩) | ((with_reducible refine gc 42 rfl ?_); refine gl_ (some 65) rfl rfl Tryd.func42 ((carrefourref01_Times.calls kj8 _ _ _ _ A25.out).mono ?_) ag; rintro e w28 ⟨v571, rfl, ho0, hb⟩; refine ⟨_, rfl, ?_⟩; have HO572 := Aside0.mk (Kd.R_lower (Kd.R_new' ho0 (rl HO567)) (below_size (bf HB))); replace HO567 := re_ HO567 (Kd.R_base ho0) hb; replace HB := bs HB hb; (try clear hb); (try clear ho0); obtain ⟨Ao29, co29, eo29⟩ := Kd.R_slice HO567.out; subst eo29; obtain ⟨Ao30, co30, eo30⟩ := Kd.R_slice HO572.out; subst eo30) | ((with_reducible refine gc 46 rfl ?_); refine gm_ (some 66) rfl rfl Tryd.func46 (carrefourref01_Order.calls kj8 _ _ _ _ _ _ _ _ ?side1 ?side2 ?side3 ?side4 A26.out) ag ?_; (case side1 => exact rc HO567); (case side2 => exact (Kd.R_reads' HO567.out).2.1); (case side3 => exact rc HO572); (case side4 => exact (Kd.R_reads' HO572.out).2.1); intro w31 hb; replace HO567 := rb HO567 hb; replace HO572 := rb HO572 hb; replace HB := bs HB hb; (try clear hb)))
            go_ret
            exact ⟨ae, bf HB⟩

/-! ### carrefourref02_Cmp: function 26 -/
theorem carrefourref02_Cmp.calls (k : Nat) (a0_0 : Int) (a0_1 : Int) (a1_0 : Int) (a1_1 : Int) (r : Int) (w : World) (h : carrefourref02_Cmp.f k a0_0 a0_1 a1_0 a1_1 = some r) :
    Calls Tryd.prog 26 #[.agg #[.int .i64 a0_0, .int .i64 a0_1], .agg #[.int .i64 a1_0, .int .i64 a1_1]] w fun e w' => e = .returned (.int .i64 r) ∧ Below w.heap.size w w' := by
  have hu23 := Tryd.underlying23
  have HB := Aside0.mk (Below.refl w.heap.size w)
  have H : ((carrefourref02_Norm.f k a0_0 a0_1).bind fun bt576 => ((carrefourref02_Norm.f k a1_0 a1_1).bind fun bt578 => ((carrefourref01_Compare.f k bt576.1 bt578.2 bt578.1 bt576.2).bind fun t580 => (some t580)))) = some r := h
  clear h
  replace H := bi_ H; obtain ⟨⟨t576, t577⟩, A3, H⟩ := H
  (try dsimp only at H)
  replace H := bi_ H; obtain ⟨⟨t578, t579⟩, A4, H⟩ := H
  (try dsimp only at H)
  replace H := bi_ H; obtain ⟨t580, A5, H⟩ := H
  (try dsimp only at H)
  obtain rfl := Option.some.inj H
  go_enter Tryd.func26, Tryd.ntmps26
  go_wp2_with (first | ((with_reducible refine gd 2 rfl ?_); refine bx_ 2 23 #[.int .i64 a0_0, .int .i64 a0_1] rfl rfl ?_; intro gb574 hg w6 BK574 hb; have GE574 := bz HB hg; replace HB := bs HB hb; clear hb hg) | ((with_reducible refine gd 3 rfl ?_); refine bx_ 3 23 #[.int .i64 a1_0, .int .i64 a1_1] rfl rfl ?_; intro gb575 hg w7 BK575 hb; have GE575 := bz HB hg; have ⟨NB574_575, NB575_574⟩ := nb BK574 hg; replace BK574 := bb BK574 hb; replace HB := bs HB hb; clear hb hg; have hnb8 := nn NB574_575; have hcz9 := k2 BK574) | ((with_reducible refine gc 39 rfl ?_); refine gm_ (some 6) rfl rfl Tryd.func39 (carrefourref02_Norm.calls _ _ _ _ _ _ A3.out) ag ?_; intro w10 hb; replace BK574 := bb BK574 hb; replace BK575 := bb BK575 hb; replace HB := bs HB hb; (try clear hb); have hcz11 := k2 BK574; have hcz12 := k2 BK575) | ((with_reducible refine gc 39 rfl ?_); refine gm_ (some 8) rfl rfl Tryd.func39 (carrefourref02_Norm.calls _ _ _ _ _ _ A4.out) ag ?_; intro w13 hb; replace BK574 := bp_ #[.int .i64 t576, .int .i64 t577] BK574 hb; replace BK575 := bb BK575 hb; replace HB := bs HB hb; (try clear hb); have hcz14 := k2 BK575; have hcz15 := k2 BK574) | ((with_reducible refine gc 59 rfl ?_); refine gm_ (some 17) rfl rfl Tryd.func59 (carrefourref01_Compare.calls _ _ _ _ _ _ _ A5.out) ag ?_; intro w16 hb; replace BK575 := bp_ #[.int .i64 t578, .int .i64 t579] BK575 hb; replace HB := bs HB hb; (try clear hb)))
  go_ret
  exact ⟨ae, bf HB⟩

/-! ### carrefourref02_Max: function 36 -/
def carrefourref02_Max.T5 : Bool × List (List Nat × List Nat) := (true, [([], []), ([0], [0]), ([1], [1]), ([2], [2]), ([2], [2]), ([3, 4, 2], [2, 3, 4]), ([5, 2], [2, 5]), ([2], [2]), ([6, 7, 2, 2], [2, 6, 7]), ([8, 2], [2, 8]), ([2, 9], [2, 9])])
def carrefourref02_Max.B5 : List Nat := [0, 1, 3, 7, 7, 31, 63, 7, 255, 511, 1023]
theorem carrefourref02_Max.tab5 : rtab .any (opsOf Tryd.f36 5) = carrefourref02_Max.T5 := by kernel_rfl
theorem carrefourref02_Max.bits5 : waitsOk carrefourref02_Max.T5.2 carrefourref02_Max.B5 = true := by kernel_rfl
theorem carrefourref02_Max.calls (k : Nat) (A0 : Option Addr) (c0 : Nat) (l0 : List (S23)) (r1 : Int) (r2 : Int) (w : World) (hr0 : Kd.C k23 w A0 l0.length l0) (hc0 : l0.length ≤ c0) (h : carrefourref02_Max.f k l0 = some (r1, r2)) :
    Calls Tryd.prog 36 #[.slice A0 l0.length c0] w fun e w' => e = .returned (.agg #[.int .i64 r1, .int .i64 r2]) ∧ Below w.heap.size w w' := by
  have hu23 := Tryd.underlying23
  have HR0 := Aside0.mk hr0
  have HC0 := Aside0.mk hc0
  clear hr0 hc0
  have HB := Aside0.mk (Below.refl w.heap.size w)
  have H : (carrefourref02_Max.l0 k l0 0 0 1) = some (r1, r2) := h
  clear h
  have H' := Aside0.mk H
  clear H
  go_enter Tryd.func36, Tryd.ntmps36
  go_wp2_with (first | ((with_reducible refine gd 2 rfl ?_); refine bx_ 2 23 #[.int .i64 0, .int .i64 0] rfl rfl ?_; intro gb581 hg w2 BK581 hb; have GE581 := bz HB hg; replace HB := bs HB hb; clear hb hg) | ((with_reducible refine gd 3 rfl ?_); refine bx_ 3 23 #[.int .i64 0, .int .i64 0] rfl rfl ?_; intro gb582 hg w3 BK582 hb; have GE582 := bz HB hg; have ⟨NB581_582, NB582_581⟩ := nb BK581 hg; replace BK581 := bb BK581 hb; replace HB := bs HB hb; clear hb hg; have hnb4 := nn NB582_581; have hcz5 := k2 BK582))
  go_loopg [4] k (fun kq v4 w' => ∃ (x4_1 : Int) (x583000_1 : Int) (x583001_1 : Int), v4 = .int .i64 x4_1 ∧ Aside0 (carrefourref02_Max.l0 kq l0 x4_1 x583000_1 x583001_1 = some (r1, r2)) ∧ Aside0 (kq ≤ k) ∧ Aside0 (w'.heap[gb581]? = some (.cells #[.int .i64 0, .int .i64 0] 23 (0, 0))) ∧ Aside0 (w'.heap[gb582]? = some (.cells #[.int .i64 x583000_1, .int .i64 x583001_1] 23 (0, 0))) ∧ Aside0 (Below w.heap.size w w'))
  case atStart => exact ⟨(0), (0), (1), (aq), H', ⟨Nat.le_refl _⟩, bu_ BK581, bq_ BK582, ⟨bf HB⟩⟩
  case round =>
    clear H'
    try clear p2
    try clear c3
    try clear c4
    try clear hcz5
    obtain ⟨x4_1, x583000_1, x583001_1, rfl, HA, HK1, BK581, BK582, HB⟩ := hrel
    cases gk with
    | zero => exact absurd HA.out (by simp [carrefourref02_Max.l0])
    | succ k1 =>
      have H := HA.out
      clear HA
      simp only [carrefourref02_Max.l0] at H
      by_cases c6 : x4_1 < (l0.length : Int)
      · rw [if_pos c6] at H
        have c6b0 : decide (x4_1 < (l0.length : Int)) = true := decide_eq_true c6
        clear c6
        by_cases c7 : x4_1 = 0
        · rw [if_pos c7] at H
          have c7b0 : (x4_1 == 0) = true := beq_iff_eq.mpr c7
          have c7b1 : (x4_1 != 0) = false := bne_eq_false_iff_eq.mpr c7
          clear c7
          by_cases c8 : 0 ≤ x4_1
          · rw [if_pos c8] at H
            have c8b0 : decide (0 ≤ x4_1) = true := decide_eq_true c8
            clear c8
            replace H := bi_ H; obtain ⟨⟨t584, t585⟩, A9, H⟩ := H
            (try dsimp only at H)
            have H' := Aside0.mk H
            clear H
            try go_wp2
            replace BK581 := Aside0.mk (blk_drew BK581.out)
            replace BK582 := Aside0.mk (blk_drew BK582.out)
            replace HB := Aside0.mk (below_drew1 HB.out)
            refine start_ (n := 11) (S := fun w' => True) (ds := []) (m_ 11 0) (by kernel_rfl) rfl rfl trivial (fun hHeld => ?_); refine with_tabW carrefourref02_Max.tab5 carrefourref02_Max.bits5 (fun HT_ HW_ => ?_)
            generalize wr.drew = w10 at BK581 BK582 HB hHeld ⊢
            refine pu_ 0 (some 12) (m_ 11 1) rfl rfl (ao HT_) ?_
            refine pu_ 1 (some 13) (m_ 11 3) rfl rfl (ao HT_) ?_
            refine pu_ 2 (some 14) (m_ 11 7) rfl rfl (ao HT_) ?_
            refine pv_ 3 (some 15) (m_ 11 15) rfl rfl (ao HT_) ?_
            refine pv_ 4 (some 16) (m_ 11 31) rfl rfl (ao HT_) ?_
            refine pv_ 5 (some 17) (m_ 11 63) rfl rfl (ao HT_) ?_
            refine pv_ 6 (some 18) (m_ 11 127) rfl rfl (ao HT_) ?_
            refine pv_ 7 (some 19) (m_ 11 255) rfl rfl (ao HT_) ?_
            refine pv_ 8 (some 20) (m_ 11 511) rfl rfl (ao HT_) ?_
            refine pv_ 9 (some 21) (m_ 11 1023) rfl rfl (ao HT_) ?_
            refine pu_ 10 (some 22) (m_ 11 2047) rfl rfl (ao HT_) ?_
            refine done_ (done_of HT_.out (by kernel_rfl)) ?_
            have p583 : 0 ≤ (x4_1 : Int) := of_decide_eq_true (by first | (with_reducible assumption) | assumption)
            have q583 : x4_1 < (l0.length : Int) := of_decide_eq_true (by first | (with_reducible assumption) | assumption)
            obtain ⟨ad583, e583, hx583_0, hx583_1⟩ := at_T23 HR0.out x4_1 p583 q583
            cases e583
            replace hx583_0 := (HB.out.cell (World.block_lt_of_cell? w _ hx583_0)).trans hx583_0
            replace hx583_1 := (HB.out.cell (World.block_lt_of_cell? w _ hx583_1)).trans hx583_1
            replace p583 := eq_true p583
            replace q583 := eq_true q583
            try go_wp2_with (first | ((with_reducible refine gc 39 rfl ?_); refine gm_ (some 27) rfl rfl Tryd.func39 (carrefourref02_Norm.calls _ ((rd_T23 l0 x4_1).f0) ((rd_T23 l0 x4_1).f1) _ _ _ A9.out) ag ?_; intro w11 hb; replace BK581 := bb BK581 hb; replace BK582 := bb BK582 hb; replace HB := bs HB hb; (try clear hb); have hnb12 := nn NB582_581; have hcz13 := k2 BK582))
            go_roundg k1
            case measure => have := HK1.out; omega
            case rel => exact ⟨(wrap64 (x4_1 + 1)), (t584), (t585), (aq), H', ⟨by have := HK1.out; omega⟩, bu_ BK581, bq_ BK582, ⟨bf HB⟩⟩
          · rw [if_neg c8] at H
            exact absurd H (by simp)
        · rw [if_neg c7] at H
          have c7b0 : (x4_1 == 0) = false := beq_eq_false_iff_ne.mpr c7
          have c7b1 : (x4_1 != 0) = true := bne_iff_ne.mpr c7
          by_cases c14 : 0 ≤ x4_1
          · rw [if_pos c14] at H
            have c14b0 : decide (0 ≤ x4_1) = true := decide_eq_true c14
            clear c14
            replace H := bi_ H; obtain ⟨t587, A15, H⟩ := H
            (try dsimp only at H)
            by_cases c16 : t587 > 0
            · rw [if_pos c16] at H
              have c16b0 : decide (0 < t587) = true := decide_eq_true c16
              clear c16
              replace H := bi_ H; obtain ⟨⟨t589, t590⟩, A17, H⟩ := H
              (try dsimp only at H)
              have H' := Aside0.mk H
              clear H
              try go_wp2
              replace BK581 := Aside0.mk (blk_drew BK581.out)
              replace BK582 := Aside0.mk (blk_drew BK582.out)
              replace HB := Aside0.mk (below_drew1 HB.out)
              have p586 : 0 ≤ (x4_1 : Int) := of_decide_eq_true (by first | (with_reducible assumption) | assumption)
              have q586 : x4_1 < (l0.length : Int) := of_decide_eq_true (by first | (with_reducible assumption) | assumption)
              obtain ⟨ad586, e586, hx586_0, hx586_1⟩ := at_T23 HR0.out x4_1 p586 q586
              have hw586_1 := hx586_1
              have hw586_0 := hx586_0
              cases e586
              replace hx586_0 := (HB.out.cell (World.block_lt_of_cell? w _ hx586_0)).trans hx586_0
              replace hx586_1 := (HB.out.cell (World.block_lt_of_cell? w _ hx586_1)).trans hx586_1
              replace p586 := eq_true p586
              replace q586 := eq_true q586
              refine start_ (n := 11) (S := fun w' => c_ w' gb582 0 (.int .i64 x583000_1) ∧ c_ w' gb582 1 (.int .i64 x583001_1) ∧ w'.cell? (ad586.add ((x4_1).toNat * 2)) = some (.int .i64 ((rd_T23 l0 x4_1).f0)) ∧ w'.cell? ⟨(ad586.add ((x4_1).toNat * 2)).block, (ad586.add ((x4_1).toNat * 2)).off + 1, none⟩ = some (.int .i64 ((rd_T23 l0 x4_1).f1))) (ds := []) (m_ 11 0) (by kernel_rfl) rfl rfl ⟨ct BK582 0, ct BK582 1, ((HB.out.cell (World.block_lt_of_cell? w _ hw586_0)).trans hw586_0), ((HB.out.cell (World.block_lt_of_cell? w _ hw586_1)).trans hw586_1)⟩ (fun hHeld => ?_); refine with_tabW carrefourref02_Max.tab5 carrefourref02_Max.bits5 (fun HT_ HW_ => ?_)
              generalize wr.drew = w18 at BK581 BK582 HB hx586_0 hx586_1 hHeld ⊢
              refine pu_ 0 (some 12) (m_ 11 1) rfl rfl (ao HT_) ?_
              refine pu_ 1 (some 13) (m_ 11 3) rfl rfl (ao HT_) ?_
              refine pu_ 2 (some 14) (m_ 11 7) rfl rfl (ao HT_) ?_
              refine pu_ 3 (some 15) (m_ 11 15) rfl rfl (ao HT_) ?_
              refine pu_ 4 (some 16) (m_ 11 31) rfl rfl (ao HT_) ?_
              refine pu_ 5 (some 17) (m_ 11 63) rfl rfl (ao HT_) ?_
              refine tk_ 6 (some 18) (m_ 11 127) rfl rfl (tw HT_ HW_) hHeld ?_
              refine tk_ 7 (some 19) (m_ 11 255) rfl rfl (tw HT_ HW_) hHeld ?_
              refine o1_ 8 (some 20) (m_ 11 511) rfl rfl (oo HT_) (fun K hK => ?_)
              refine gs_ rfl Tryd.func26 (carrefourref02_Cmp.calls _ ((rd_T23 l0 x4_1).f0) ((rd_T23 l0 x4_1).f1) _ _ _ _ A15.out) ag ?_
              intro w19 hb
              replace BK581 := bb BK581 hb
              replace BK582 := bb BK582 hb
              replace HB := bs HB hb
              (try clear hb)
              refine hK.out _ _ ⟨ct BK582 0, ct BK582 1, ((HB.out.cell (World.block_lt_of_cell? w _ hw586_0)).trans hw586_0), ((HB.out.cell (World.block_lt_of_cell? w _ hw586_1)).trans hw586_1)⟩ (fun hHeld => ?_)
              clear hK K
              refine nr_ (some 20) ?_
              refine pu_ 9 (some 21) (m_ 11 1023) rfl rfl (ao HT_) ?_
              refine pu_ 10 (some 22) (m_ 11 2047) rfl rfl (ao HT_) ?_
              refine done_ (done_of HT_.out (by kernel_rfl)) ?_
              have p588 : 0 ≤ (x4_1 : Int) := of_decide_eq_true (by first | (with_reducible assumption) | assumption)
              have q588 : x4_1 < (l0.length : Int) := of_decide_eq_true (by first | (with_reducible assumption) | assumption)
              obtain ⟨ad588, e588, hx588_0, hx588_1⟩ := at_T23 HR0.out x4_1 p588 q588
              obtain rfl : ad586 = ad588 := (by injection e588)
              replace hx588_0 := (HB.out.cell (World.block_lt_of_cell? w _ hx588_0)).trans hx588_0
              replace hx588_1 := (HB.out.cell (World.block_lt_of_cell? w _ hx588_1)).trans hx588_1
              replace p588 := eq_true p588
              replace q588 := eq_true q588
              try go_wp2_with (first | ((with_reducible refine gc 39 rfl ?_); refine gm_ (some 27) rfl rfl Tryd.func39 (carrefourref02_Norm.calls _ ((rd_T23 l0 x4_1).f0) ((rd_T23 l0 x4_1).f1) _ _ _ A17.out) ag ?_; intro w20 hb; replace BK581 := bb BK581 hb; replace BK582 := bb BK582 hb; replace HB := bs HB hb; (try clear hb); have hnb21 := nn NB582_581; have hcz22 := k2 BK582))
              go_roundg k1
              case measure => have := HK1.out; omega
              case rel => exact ⟨(wrap64 (x4_1 + 1)), (t589), (t590), (aq), H', ⟨by have := HK1.out; omega⟩, bu_ BK581, bq_ BK582, ⟨bf HB⟩⟩
            · rw [if_neg c16] at H
              have c16b0 : decide (0 < t587) = false := decide_eq_false c16
              clear c16
              have H' := Aside0.mk H
              clear H
              try go_wp2
              replace BK581 := Aside0.mk (blk_drew BK581.out)
              replace BK582 := Aside0.mk (blk_drew BK582.out)
              replace HB := Aside0.mk (below_drew1 HB.out)
              have p586 : 0 ≤ (x4_1 : Int) := of_decide_eq_true (by first | (with_reducible assumption) | assumption)
              have q586 : x4_1 < (l0.length : Int) := of_decide_eq_true (by first | (with_reducible assumption) | assumption)
              obtain ⟨ad586, e586, hx586_0, hx586_1⟩ := at_T23 HR0.out x4_1 p586 q586
              have hw586_1 := hx586_1
              have hw586_0 := hx586_0
              cases e586
              replace hx586_0 := (HB.out.cell (World.block_lt_of_cell? w _ hx586_0)).trans hx586_0
              replace hx586_1 := (HB.out.cell (World.block_lt_of_cell? w _ hx586_1)).trans hx586_1
              replace p586 := eq_true p586
              replace q586 := eq_true q586
              refine start_ (n := 11) (S := fun w' => c_ w' gb582 0 (.int .i64 x583000_1) ∧ c_ w' gb582 1 (.int .i64 x583001_1) ∧ w'.cell? (ad586.add ((x4_1).toNat * 2)) = some (.int .i64 ((rd_T23 l0 x4_1).f0)) ∧ w'.cell? ⟨(ad586.add ((x4_1).toNat * 2)).block, (ad586.add ((x4_1).toNat * 2)).off + 1, none⟩ = some (.int .i64 ((rd_T23 l0 x4_1).f1))) (ds := []) (m_ 11 0) (by kernel_rfl) rfl rfl ⟨ct BK582 0, ct BK582 1, ((HB.out.cell (World.block_lt_of_cell? w _ hw586_0)).trans hw586_0), ((HB.out.cell (World.block_lt_of_cell? w _ hw586_1)).trans hw586_1)⟩ (fun hHeld => ?_); refine with_tabW carrefourref02_Max.tab5 carrefourref02_Max.bits5 (fun HT_ HW_ => ?_)
              generalize wr.drew = w23 at BK581 BK582 HB hx586_0 hx586_1 hHeld ⊢
              refine pu_ 0 (some 12) (m_ 11 1) rfl rfl (ao HT_) ?_
              refine pu_ 1 (some 13) (m_ 11 3) rfl rfl (ao HT_) ?_
              refine pu_ 2 (some 14) (m_ 11 7) rfl rfl (ao HT_) ?_
              refine pu_ 3 (some 15) (m_ 11 15) rfl rfl (ao HT_) ?_
              refine pu_ 4 (some 16) (m_ 11 31) rfl rfl (ao HT_) ?_
              refine pu_ 5 (some 17) (m_ 11 63) rfl rfl (ao HT_) ?_
              refine tk_ 6 (some 18) (m_ 11 127) rfl rfl (tw HT_ HW_) hHeld ?_
              refine tk_ 7 (some 19) (m_ 11 255) rfl rfl (tw HT_ HW_) hHeld ?_
              refine o1_ 8 (some 20) (m_ 11 511) rfl rfl (oo HT_) (fun K hK => ?_)
              refine gs_ rfl Tryd.func26 (carrefourref02_Cmp.calls _ ((rd_T23 l0 x4_1).f0) ((rd_T23 l0 x4_1).f1) _ _ _ _ A15.out) ag ?_
              intro w24 hb
              replace BK581 := bb BK581 hb
              replace BK582 := bb BK582 hb
              replace HB := bs HB hb
              (try clear hb)
              refine hK.out _ _ ⟨ct BK582 0, ct BK582 1, ((HB.out.cell (World.block_lt_of_cell? w _ hw586_0)).trans hw586_0), ((HB.out.cell (World.block_lt_of_cell? w _ hw586_1)).trans hw586_1)⟩ (fun hHeld => ?_)
              clear hK K
              refine nr_ (some 20) ?_
              refine pu_ 9 (some 21) (m_ 11 1023) rfl rfl (ao HT_) ?_
              refine pu_ 10 (some 22) (m_ 11 2047) rfl rfl (ao HT_) ?_
              refine done_ (done_of HT_.out (by kernel_rfl)) ?_
              try go_wp2
              go_roundg k1
              case measure => have := HK1.out; omega
              case rel => exact ⟨(wrap64 (x4_1 + 1)), (x583000_1), (x583001_1), (aq), H', ⟨by have := HK1.out; omega⟩, bu_ BK581, bu_ BK582, ⟨bf HB⟩⟩
          · rw [if_neg c14] at H
            exact absurd H (by simp)
      · rw [if_neg c6] at H
        have c6b0 : decide (x4_1 < (l0.length : Int)) = false := decide_eq_false c6
        clear c6
        simp only [Option.some.injEq, Prod.mk.injEq] at H
        obtain ⟨rfl, rfl⟩ := H
        have hnb25 := nn NB582_581
        have hcz26 := k2 BK582
        have hcz27 := k2 BK581
        go_wp2
        refine bodyPost_ret (results_cell_row rfl _ _ gb581 23 #[.int .i64 x583000_1, .int .i64 x583001_1] (0, 0) _ rfl (br_ BK581) Tryd.underlying23 rfl (by kernel_rfl)) rfl ?_
        exact ⟨ae, bf HB⟩

end Go.Proofs.YtjgnaccamakpdaaDoor.X
