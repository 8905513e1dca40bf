/- Walks: each '.calls' says that the Go function comes to what its Lean function tells. Conditions: as each theorem's head says. -/
import Derived.Test.YtcdaedhphdmnoaaDoorXD
import Derived.Test.YtcdaedhphdmnoaaDoorX0
import Derived.Test.YtcdaedhphdmnoaaDoorX14
import Derived.Test.YtcdaedhphdmnoaaDoorX15
namespace Go.Proofs.YtcdaedhphdmnoaaDoor.X
open Go.RowKit Go.Proofs.YtcdaedhphdmnoaaDoorW.PrintWords Go.Proofs.YtcdaedhphdmnoaaDoorW.PrintLast Go.Proofs.YtcdaedhphdmnoaaDoorW.PrintMore
attribute [local go_sem] max2_int min2_int max_two min_two max_three min_three max_four min_four   -- for this text's walks alone
set_option linter.unusedVariables false
set_option maxHeartbeats 8000000
set_option maxRecDepth 100000
set_option linter.unusedSimpArgs false

/-! ### carrefourref01_Compare: function 17 -/
theorem carrefourref01_Compare.calls (k : Nat) (a0 : Int) (a1 : Int) (a2 : Int) (a3 : Int) (r : Int) (w : World) (h : carrefourref01_Compare.f k a0 a1 a2 a3 = some r) :
    Calls Tryd.prog 17 #[.int .i64 a0, .int .i64 a1, .int .i64 a2, .int .i64 a3] w fun e w' => e = .returned (.int .i64 r) ∧ Below w.heap.size w w' := by
  have HB := Aside0.mk (Below.refl w.heap.size w)
  have H : ((carrefourref01_sign.f k a0 a1).bind fun t398 => ((carrefourref01_sign.f k a2 a3).bind fun t399 => (if t398 < t399 then (some (-1)) else (if t398 > t399 then (some 1) else ((carrefourref01_Size.f a0).bind fun t400 => (if t400 < 2147483648 then ((carrefourref01_Size.f a1).bind fun t401 => (if t401 < 2147483648 then ((carrefourref01_Size.f a2).bind fun t402 => (if t402 < 2147483648 then ((carrefourref01_Size.f a3).bind fun t403 => (carrefourref01_Compare.j0 k a0 a1 a2 a3 t398 (decide (t403 < 2147483648)))) else (carrefourref01_Compare.j0 k a0 a1 a2 a3 t398 false))) else (carrefourref01_Compare.j0 k a0 a1 a2 a3 t398 false))) else (carrefourref01_Compare.j0 k a0 a1 a2 a3 t398 false))))))) = some r := h
  clear h
  replace H := bi_ H; obtain ⟨t398, A5, H⟩ := H
  (try dsimp only at H)
  replace H := bi_ H; obtain ⟨t399, A6, H⟩ := H
  (try dsimp only at H)
  by_cases c7 : t398 < t399
  · rw [if_pos c7] at H
    have c7b0 : decide (t398 < t399) = true := decide_eq_true c7
    clear c7
    obtain rfl := Option.some.inj H
    go_enter Tryd.func17, Tryd.ntmps17
    go_wp2_with (first | ((with_reducible refine gc 46 rfl ?_); refine gm_ (some 13) rfl rfl Tryd.func46 (carrefourref01_sign.calls _ _ _ _ _ A5.out) ag ?_; rintro w' ⟨nd, rfl⟩) | ((with_reducible refine gc 46 rfl ?_); refine gm_ (some 16) rfl rfl Tryd.func46 (carrefourref01_sign.calls _ _ _ _ _ A6.out) ag ?_; rintro w' ⟨nd, rfl⟩))
    go_ret
    exact ⟨ae, bf HB⟩
  · rw [if_neg c7] at H
    have c7b0 : decide (t398 < t399) = false := decide_eq_false c7
    clear c7
    by_cases c8 : t398 > t399
    · rw [if_pos c8] at H
      have c8b0 : decide (t399 < t398) = true := decide_eq_true c8
      clear c8
      obtain rfl := Option.some.inj H
      go_enter Tryd.func17, Tryd.ntmps17
      go_wp2_with (first | ((with_reducible refine gc 46 rfl ?_); refine gm_ (some 13) rfl rfl Tryd.func46 (carrefourref01_sign.calls _ _ _ _ _ A5.out) ag ?_; rintro w' ⟨nd, rfl⟩) | ((with_reducible refine gc 46 rfl ?_); refine gm_ (some 16) rfl rfl Tryd.func46 (carrefourref01_sign.calls _ _ _ _ _ A6.out) ag ?_; rintro w' ⟨nd, rfl⟩))
      go_ret
      exact ⟨ae, bf HB⟩
    · rw [if_neg c8] at H
      have c8b0 : decide (t399 < t398) = false := decide_eq_false c8
      clear c8
      have HC9 := Aside0.mk H
      clear H
      go_enter Tryd.func17, Tryd.ntmps17
      go_upto_region 7 with (first | ((with_reducible refine gc 46 rfl ?_); refine gm_ (some 13) rfl rfl Tryd.func46 (carrefourref01_sign.calls _ _ _ _ _ A5.out) ag ?_; rintro w' ⟨nd, rfl⟩) | ((with_reducible refine gc 46 rfl ?_); refine gm_ (some 16) rfl rfl Tryd.func46 (carrefourref01_sign.calls _ _ _ _ _ A6.out) ag ?_; rintro w' ⟨nd, rfl⟩))
      (try simp only [Act.put, si, s0, s1])
      go_cut [40] (fun v40 wc => ∃ (kq : Nat) (x40_8 : Bool), v40 = .bool x40_8 ∧ Aside0 (carrefourref01_Compare.j0 kq a0 a1 a2 a3 t398 x40_8 = some r) ∧ Aside0 (kq ≤ k) ∧ Aside0 (Below w.heap.size w wc))
      case first =>
        have H := HC9.out
        clear HC9
        replace H := bi_ H; obtain ⟨t400, A10, H⟩ := H
        (try dsimp only at H)
        by_cases c11 : t400 < 2147483648
        · rw [if_pos c11] at H
          have c11b0 : decide (t400 < 2147483648) = true := decide_eq_true c11
          clear c11
          (first | rw [c11b0] | (simp only [i64_w, i32_w]; rw [c11b0]) | skip)
          replace H := bi_ H; obtain ⟨t401, A12, H⟩ := H
          (try dsimp only at H)
          by_cases c13 : t401 < 2147483648
          · rw [if_pos c13] at H
            have c13b0 : decide (t401 < 2147483648) = true := decide_eq_true c13
            clear c13
            replace H := bi_ H; obtain ⟨t402, A14, H⟩ := H
            (try dsimp only at H)
            by_cases c15 : t402 < 2147483648
            · rw [if_pos c15] at H
              have c15b0 : decide (t402 < 2147483648) = true := decide_eq_true c15
              clear c15
              replace H := bi_ H; obtain ⟨t403, A16, H⟩ := H
              (try dsimp only at H)
              have H' := Aside0.mk H
              clear H
              go_wp2_with (first | ((with_reducible refine gc 22 rfl ?_); refine gm_ (some 24) rfl rfl Tryd.func22 (carrefourref01_Size.calls _ _ _ A10.out) ag ?_; rintro w' ⟨nd, rfl⟩) | (go_at_call 22; (with_reducible refine (carrefourref01_Size.calls _ _ _ A12.out).mono ?_); rintro e w' ⟨rfl, ⟨nd, rfl⟩⟩) | (go_at_call 22; (with_reducible refine (carrefourref01_Size.calls _ _ _ A14.out).mono ?_); rintro e w' ⟨rfl, ⟨nd, rfl⟩⟩) | (go_at_call 22; (with_reducible refine (carrefourref01_Size.calls _ _ _ A16.out).mono ?_); rintro e w' ⟨rfl, ⟨nd, rfl⟩⟩))
              go_meet
              case rel => exact ⟨_, (decide (t403 < 2147483648)), (aq), H', ⟨by first | omega | exact Nat.le_refl _⟩, ⟨bf HB⟩⟩
            · rw [if_neg c15] at H
              have c15b0 : decide (t402 < 2147483648) = false := decide_eq_false c15
              clear c15
              have H' := Aside0.mk H
              clear H
              go_wp2_with (first | ((with_reducible refine gc 22 rfl ?_); refine gm_ (some 24) rfl rfl Tryd.func22 (carrefourref01_Size.calls _ _ _ A10.out) ag ?_; rintro w' ⟨nd, rfl⟩) | (go_at_call 22; (with_reducible refine (carrefourref01_Size.calls _ _ _ A12.out).mono ?_); rintro e w' ⟨rfl, ⟨nd, rfl⟩⟩) | (go_at_call 22; (with_reducible refine (carrefourref01_Size.calls _ _ _ A14.out).mono ?_); rintro e w' ⟨rfl, ⟨nd, rfl⟩⟩))
              go_meet
              case rel => exact ⟨_, (false), (aq), H', ⟨by first | omega | exact Nat.le_refl _⟩, ⟨bf HB⟩⟩
          · rw [if_neg c13] at H
            have c13b0 : decide (t401 < 2147483648) = false := decide_eq_false c13
            clear c13
            have H' := Aside0.mk H
            clear H
            go_wp2_with (first | ((with_reducible refine gc 22 rfl ?_); refine gm_ (some 24) rfl rfl Tryd.func22 (carrefourref01_Size.calls _ _ _ A10.out) ag ?_; rintro w' ⟨nd, rfl⟩) | (go_at_call 22; (with_reducible refine (carrefourref01_Size.calls _ _ _ A12.out).mono ?_); rintro e w' ⟨rfl, ⟨nd, rfl⟩⟩))
            go_meet
            case rel => exact ⟨_, (false), (aq), H', ⟨by first | omega | exact Nat.le_refl _⟩, ⟨bf HB⟩⟩
        · rw [if_neg c11] at H
          have c11b0 : decide (t400 < 2147483648) = false := decide_eq_false c11
          clear c11
          (first | rw [c11b0] | (simp only [i64_w, i32_w]; rw [c11b0]) | skip)
          have H' := Aside0.mk H
          clear H
          go_wp2_with (first | ((with_reducible refine gc 22 rfl ?_); refine gm_ (some 24) rfl rfl Tryd.func22 (carrefourref01_Size.calls _ _ _ A10.out) ag ?_; rintro w' ⟨nd, rfl⟩))
          go_meet
          case rel => exact ⟨_, (false), (aq), H', ⟨by first | omega | exact Nat.le_refl _⟩, ⟨bf HB⟩⟩
      case rest =>
        clear HC9
        try clear c1
        try clear c2
        try clear p2
        try clear c4
        try clear c7
        try clear c7b0
        try clear c8
        try clear c8b0
        try clear c11
        try clear c11b0
        try clear c13
        try clear c13b0
        try clear c15
        try clear c15b0
        obtain ⟨kq, x40_8, rfl, HA, HJ8, HB⟩ := hcut
        cases kq with
        | zero => exact absurd HA.out (by simp [carrefourref01_Compare.j0])
        | succ kj8 =>
          have H := HA.out
          clear HA
          simp only [carrefourref01_Compare.j0] at H
          by_cases c17 : x40_8 = true
          · subst c17
            have H1 : (if (wrap64 (a0 * a1)) < (wrap64 (a2 * a3)) then (some (-1)) else (if (wrap64 (a0 * a1)) > (wrap64 (a2 * a3)) then (some 1) else (some 0))) = some r := by rw [if_pos rfl] at H; exact H
            clear H
            have H := H1
            clear H1
            by_cases c18 : (wrap64 (a0 * a1)) < (wrap64 (a2 * a3))
            · rw [if_pos c18] at H
              have c18b0 : decide ((wrap64 (a0 * a1)) < (wrap64 (a2 * a3))) = true := decide_eq_true c18
              clear c18
              obtain rfl := Option.some.inj H
              go_wp2
              go_ret
              exact ⟨ae, bf HB⟩
            · rw [if_neg c18] at H
              have c18b0 : decide ((wrap64 (a0 * a1)) < (wrap64 (a2 * a3))) = false := decide_eq_false c18
              clear c18
              by_cases c19 : (wrap64 (a0 * a1)) > (wrap64 (a2 * a3))
              · rw [if_pos c19] at H
                have c19b0 : decide ((wrap64 (a2 * a3)) < (wrap64 (a0 * a1))) = true := decide_eq_true c19
                clear c19
                obtain rfl := Option.some.inj H
                go_wp2
                go_ret
                exact ⟨ae, bf HB⟩
              · rw [if_neg c19] at H
                have c19b0 : decide ((wrap64 (a2 * a3)) < (wrap64 (a0 * a1))) = false := decide_eq_false c19
                clear c19
                obtain rfl := Option.some.inj H
                go_wp2
                go_ret
                exact ⟨ae, bf HB⟩
          · replace c17 := Bool.eq_false_iff.mpr c17
            subst c17
            have H1 : ((carrefourref01_Size.f a0).bind fun t404 => ((carrefourref01_Size.f a1).bind fun t405 => ((carrefourref01_Times.f kj8 t404 t405).bind fun t406 => ((carrefourref01_Size.f a2).bind fun t409 => ((carrefourref01_Size.f a3).bind fun t410 => ((carrefourref01_Times.f kj8 t409 t410).bind fun t411 => ((carrefourref01_Order.f kj8 t406 t411).bind fun t414 => (some (wrap64 (t398 * t414)))))))))) = some r := by rw [if_neg (show ¬ (false = true) by decide)] at H; exact H
            clear H
            have H := H1
            clear H1
            replace H := bi_ H; obtain ⟨t404, A20, H⟩ := H
            (try dsimp only at H)
            replace H := bi_ H; obtain ⟨t405, A21, H⟩ := H
            (try dsimp only at H)
            replace H := bi_ H; obtain ⟨t406, A22, H⟩ := H
            (try dsimp only at H)
            replace H := bi_ H; obtain ⟨t409, A23, H⟩ := H
            (try dsimp only at H)
            replace H := bi_ H; obtain ⟨t410, A24, H⟩ := H
            (try dsimp only at H)
            replace H := bi_ H; obtain ⟨t411, A25, H⟩ := H
            (try dsimp only at H)
            replace H := bi_ H; obtain ⟨t414, A26, H⟩ := H
            (try dsimp only at H)
            obtain rfl := Option.some.inj H
            go_wp2_with (first | ((with_reducible refine gc 22 rfl ?_); refine gm_ (some 57) rfl rfl Tryd.func22 (carrefourref01_Size.calls _ _ _ A20.out) ag ?_; rintro w' ⟨nd, rfl⟩) | ((with_reducible refine gc 22 rfl ?_); refine gm_ (some 59) rfl rfl Tryd.func22 (carrefourref01_Size.calls _ _ _ A21.out) ag ?_; rintro w' ⟨nd, rfl⟩) | ((with_reducible refine gc 21 rfl ?_); refine gl_ (some 60) rfl rfl Tryd.func21 ((carrefourref01_Times.calls kj8 _ _ _ _ A22.out).mono ?_) ag; rintro e w27 ⟨v407, rfl, ho0, hb⟩; refine ⟨_, rfl, ?_⟩; have HO408 := Aside0.mk (Kd.R_lower ho0 (below_size (bf HB))); replace HB := bs HB hb; (try clear hb); (try clear ho0)) | ((with_reducible refine gc 22 rfl ?_); refine gm_ (some 62) rfl rfl Tryd.func22 (carrefourref01_Size.calls _ _ _ A23.out) ag ?_; rintro w' ⟨nd, rfl⟩) | ((with_reducible refine gc 22 rfl ?_); refine gm_ (some 64) rfl rfl Tryd.func22 (carrefourref01_Size.calls _ _ _ A24.out) ag ?_; rintro w' ⟨nd, rfl⟩) | ((with_reducible refine gc 21 rfl ?_); refine gl_ (some 65) rfl rfl Tryd.func21 ((carrefourref01_Times.calls kj8 _ _ _ _ A25.out).mono ?_) ag; rintro e w28 ⟨v412, rfl, ho0, hb⟩; refine ⟨_, rfl, ?_⟩; have HO413 := Aside0.mk (Kd.R_lower (Kd.R_new' ho0 (rl HO408)) (below_size (bf HB))); replace HO408 := re_ HO408 (Kd.R_base ho0) hb; replace HB := bs HB hb; (try clear hb); (try clear ho0); obtain ⟨Ao29, co29, eo29⟩ := Kd.R_slice HO408.out; subst eo29; obtain ⟨Ao30, co30, eo30⟩ := Kd.R_slice HO413.out; subst eo30) | ((with_reducible refine gc 25 rfl ?_); refine gm_ (some 66) rfl rfl Tryd.func25 (carrefourref01_Order.calls kj8 _ _ _ _ _ _ _ _ ?side1 ?side2 ?side3 ?side4 A26.out) ag ?_; (case side1 => exact rc HO408); (case side2 => exact (Kd.R_reads' HO408.out).2.1); (case side3 => exact rc HO413); (case side4 => exact (Kd.R_reads' HO413.out).2.1); intro w31 hb; replace HO408 := rb HO408 hb; replace HO413 := rb HO413 hb; replace HB := bs HB hb; (try clear hb)))
            go_ret
            exact ⟨ae, bf HB⟩

/-! ### carrefourref02_Cmp: function 7 -/
theorem carrefourref02_Cmp.calls (k : Nat) (a0_0 : Int) (a0_1 : Int) (a1_0 : Int) (a1_1 : Int) (r : Int) (w : World) (h : carrefourref02_Cmp.f k a0_0 a0_1 a1_0 a1_1 = some r) :
    Calls Tryd.prog 7 #[.agg #[.int .i64 a0_0, .int .i64 a0_1], .agg #[.int .i64 a1_0, .int .i64 a1_1]] w fun e w' => e = .returned (.int .i64 r) ∧ Below w.heap.size w w' := by
  have hu23 := Tryd.underlying23
  have HB := Aside0.mk (Below.refl w.heap.size w)
  have H : ((carrefourref02_Norm.f k a0_0 a0_1).bind fun bt417 => ((carrefourref02_Norm.f k a1_0 a1_1).bind fun bt419 => ((carrefourref01_Compare.f k bt417.1 bt419.2 bt419.1 bt417.2).bind fun t421 => (some t421)))) = some r := h
  clear h
  replace H := bi_ H; obtain ⟨⟨t417, t418⟩, A3, H⟩ := H
  (try dsimp only at H)
  replace H := bi_ H; obtain ⟨⟨t419, t420⟩, A4, H⟩ := H
  (try dsimp only at H)
  replace H := bi_ H; obtain ⟨t421, A5, H⟩ := H
  (try dsimp only at H)
  obtain rfl := Option.some.inj H
  go_enter Tryd.func7, Tryd.ntmps7
  go_wp2_with (first | ((with_reducible refine gd 2 rfl ?_); refine bx_ 2 23 #[.int .i64 a0_0, .int .i64 a0_1] rfl rfl ?_; intro gb415 hg w6 BK415 hb; have GE415 := bz HB hg; replace HB := bs HB hb; clear hb hg) | ((with_reducible refine gd 3 rfl ?_); refine bx_ 3 23 #[.int .i64 a1_0, .int .i64 a1_1] rfl rfl ?_; intro gb416 hg w7 BK416 hb; have GE416 := bz HB hg; have ⟨NB415_416, NB416_415⟩ := nb BK415 hg; replace BK415 := bb BK415 hb; replace HB := bs HB hb; clear hb hg; have hnb8 := nn NB415_416; have hcz9 := X.k2 BK415) | ((with_reducible refine gc 16 rfl ?_); refine gm_ (some 6) rfl rfl Tryd.func16 (carrefourref02_Norm.calls _ _ _ _ _ _ A3.out) ag ?_; intro w10 hb; replace BK415 := bb BK415 hb; replace BK416 := bb BK416 hb; replace HB := bs HB hb; (try clear hb); have hcz11 := X.k2 BK415; have hcz12 := X.k2 BK416) | ((with_reducible refine gc 16 rfl ?_); refine gm_ (some 8) rfl rfl Tryd.func16 (carrefourref02_Norm.calls _ _ _ _ _ _ A4.out) ag ?_; intro w13 hb; replace BK415 := bp_ #[.int .i64 t417, .int .i64 t418] BK415 hb; replace BK416 := bb BK416 hb; replace HB := bs HB hb; (try clear hb); have hcz14 := X.k2 BK416; have hcz15 := X.k2 BK415) | ((with_reducible refine gc 17 rfl ?_); refine gm_ (some 17) rfl rfl Tryd.func17 (carrefourref01_Compare.calls _ _ _ _ _ _ _ A5.out) ag ?_; intro w16 hb; replace BK416 := bp_ #[.int .i64 t419, .int .i64 t420] BK416 hb; replace HB := bs HB hb; (try clear hb)))
  go_ret
  exact ⟨ae, bf HB⟩

end Go.Proofs.YtcdaedhphdmnoaaDoor.X
