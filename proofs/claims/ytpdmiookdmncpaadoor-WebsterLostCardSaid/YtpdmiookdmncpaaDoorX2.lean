/- Walks: each '.calls' says that the Go function comes to what its Lean function tells. Conditions: as each theorem's head says. -/
import Derived.Test.YtpdmiookdmncpaaDoorXD
import Derived.Test.YtpdmiookdmncpaaDoorX0
import Derived.Test.YtpdmiookdmncpaaDoorX1
namespace Go.Proofs.YtpdmiookdmncpaaDoor.X
open Go.RowKit Go.Proofs.YtpdmiookdmncpaaDoorW.PrintWords Go.Proofs.YtpdmiookdmncpaaDoorW.PrintLast Go.Proofs.YtpdmiookdmncpaaDoorW.PrintMore
attribute [local go_sem] max2_int min2_int max_two min_two max_three min_three max_four min_four   -- for this text's walks alone
set_option linter.unusedVariables false
set_option maxHeartbeats 8000000
set_option maxRecDepth 100000
set_option linter.unusedSimpArgs false

attribute [local go_sem high] eqA104
/-! ### whole_signed: function 84 -/
theorem whole_signed.calls (k : Nat) (a0 : Int) (a1 : Int) (r1 : Int) (r2 : Int) (w : World) (h : whole_signed.f k a0 a1 = some (r1, r2)) :
    Calls Tryd.prog 84 #[.int .u64 a0, .int .i64 a1] w fun e w' => e = .returned (.tuple #[.int .i64 r1, .int .i64 r2]) ∧ Drawn0 w w' := by
  have H : (if a1 < 0 then (whole_signed.j0 k a0 (decide (a0 ≤ 9223372036854775808))) else (whole_signed.j0 k a0 false)) = some (r1, r2) := h
  clear h
  have HC3 := Aside0.mk H
  clear H
  go_enter Tryd.func84, Tryd.ntmps84
  go_upto_region 1 with (fail)
  go_cut [6] (fun v6 wc => ∃ (kq : Nat) (x6_2 : Bool), v6 = .bool x6_2 ∧ Aside0 (whole_signed.j0 kq a0 x6_2 = some (r1, r2)) ∧ Aside0 (kq ≤ k) ∧ Drawn0 w wc)
  case first =>
    have H := HC3.out
    clear HC3
    by_cases c4 : a1 < 0
    · rw [if_pos c4] at H
      have c4b0 : decide (a1 < 0) = true := decide_eq_true c4
      clear c4
      (first | rw [c4b0] | (simp only [i64_w, i32_w]; rw [c4b0]) | skip)
      have H' := Aside0.mk H
      clear H
      go_wp2
      go_meet
      case rel => exact ⟨_, (decide (a0 ≤ 9223372036854775808)), (aq), H', ⟨by first | omega | exact Nat.le_refl _⟩, dr⟩
    · rw [if_neg c4] at H
      have c4b0 : decide (a1 < 0) = false := decide_eq_false c4
      clear c4
      (first | rw [c4b0] | (simp only [i64_w, i32_w]; rw [c4b0]) | skip)
      have H' := Aside0.mk H
      clear H
      go_wp2
      go_meet
      case rel => exact ⟨_, (false), (aq), H', ⟨by first | omega | exact Nat.le_refl _⟩, dr⟩
  case rest =>
    clear HC3
    try clear p2
    try clear c4
    try clear c4b0
    obtain ⟨kq, x6_2, rfl, HA, HJ2, ⟨mc2, rfl⟩⟩ := hcut
    cases kq with
    | zero => exact absurd HA.out (by simp [whole_signed.j0])
    | succ kj2 =>
      have H := HA.out
      clear HA
      simp only [whole_signed.j0] at H
      by_cases c5 : x6_2 = true
      · subst c5
        have H1 : (some (wrap64 (IntKind.u64.wrap (-a0)), 0)) = some (r1, r2) := by rw [if_pos rfl] at H; exact H
        clear H
        have H := H1
        clear H1
        simp only [Option.some.injEq, Prod.mk.injEq] at H
        obtain ⟨rfl, rfl⟩ := H
        go_wp2
        go_ret2
        exact ⟨aq, dr⟩
      · replace c5 := Bool.eq_false_iff.mpr c5
        subst c5
        have H1 : (if a0 ≤ 9223372036854775807 then (some (wrap64 (a0), 0)) else (some (0, 2))) = some (r1, r2) := by rw [if_neg (show ¬ (false = true) by decide)] at H; exact H
        clear H
        have H := H1
        clear H1
        by_cases c6 : a0 ≤ 9223372036854775807
        · rw [if_pos c6] at H
          have c6b0 : decide (a0 ≤ 9223372036854775807) = true := decide_eq_true c6
          clear c6
          simp only [Option.some.injEq, Prod.mk.injEq] at H
          obtain ⟨rfl, rfl⟩ := H
          go_wp2
          go_ret2
          exact ⟨aq, dr⟩
        · rw [if_neg c6] at H
          have c6b0 : decide (a0 ≤ 9223372036854775807) = false := decide_eq_false c6
          clear c6
          simp only [Option.some.injEq, Prod.mk.injEq] at H
          obtain ⟨rfl, rfl⟩ := H
          go_wp2
          go_ret2
          exact ⟨aq, dr⟩


/-! ### bits_TrailingZeros64: function 99 -/
theorem tz64_key (x a : Nat) (hx : x < 18446744073709551616) (hx0 : x ≠ 0) (hlow : x &&& (18446744073709551616 - x) = a) :
    IntKind.u64.wrap (Go.bits BinOp.and IntKind.u64 (x : Int) (IntKind.u64.wrap (-(x : Int))) * 285870213051353865) / 288230376151711744 = ((a * 285870213051353865 % 18446744073709551616 / 288230376151711744 : Nat) : Int) := by
  have e1 : IntKind.u64.wrap (-(x : Int)) = ((18446744073709551616 - x : Nat) : Int) := by rw [IntKind.wrap_u64]; omega
  rw [e1, bits_and_u64_nat x _ hx (by omega), hlow, IntKind.wrap_u64]
  omega
set_option maxHeartbeats 1000000 in
theorem tz64_core (x k idx : Nat) (w : World) (hx0 : ((x : Int) == 0) = false)
    (key : IntKind.u64.wrap (Go.bits BinOp.and IntKind.u64 (x : Int) (IntKind.u64.wrap (-(x : Int))) * 285870213051353865) / 288230376151711744 = (idx : Int))
    (hi : idx < 64) (hk : k < 64) (hcell : w.cell? ⟨0, idx, none⟩ = some (.int .u8 k)) :
    Calls Tryd.prog 99 #[.int .u64 x] w fun e w' => e = .returned (.int .i64 k) ∧ w' = w := by
  go_enter Tryd.func99, Tryd.ntmps99
  go_wp2_with (simp only [key])
  go_ret
  exact ⟨rfl, rfl⟩
theorem tz64_zero (w : World) : Calls Tryd.prog 99 #[.int .u64 0] w fun e w' => e = .returned (.int .i64 64) ∧ w' = w := by
  go_enter Tryd.func99, Tryd.ntmps99
  go_wp2
  go_ret
  exact ⟨rfl, rfl⟩
theorem bits_TrailingZeros64.calls (a0 r : Int) (w : World) (h : bits_TrailingZeros64.f a0 = some r) (hT : TabOK w) :
    Calls Tryd.prog 99 #[.int .u64 a0] w fun e w' => e = .returned (.int .i64 r) ∧ Drawn0 w w' := by
  unfold bits_TrailingZeros64.f at h
  by_cases c : 0 ≤ a0 ∧ a0 < 18446744073709551616
  · rw [if_pos c] at h
    obtain rfl := Option.some.inj h
    obtain ⟨x, rfl⟩ := Int.eq_ofNat_of_zero_le c.1
    have hx : x < 18446744073709551616 := by omega
    by_cases hx0 : x = 0
    · subst hx0
      exact (tz64_zero w).mono fun e w' ⟨he, hw⟩ => ⟨he, by rw [hw]; exact Drawn0.refl _⟩
    · obtain ⟨hlow, hk⟩ := Lib.lowest_bit 64 x hx0 hx
      obtain ⟨hi, htab⟩ := Lib.deBruijn64_at _ hk
      have hcell := hT.tz _ hi
      rw [htab] at hcell
      exact (tz64_core x _ _ w (by simp; omega) (tz64_key x _ hx hx0 hlow) hi hk hcell).mono fun e w' ⟨he, hw⟩ => ⟨he, by rw [hw]; exact Drawn0.refl _⟩
  · rw [if_neg c] at h
    cases h

/-! ### whole_gcd: function 85 -/
theorem whole_gcd.calls (k : Nat) (a0 : Int) (a1 : Int) (r : Int) (w : World) (h : whole_gcd.f k a0 a1 = some r) (hT : TabOK w) :
    Calls Tryd.prog 85 #[.int .u64 a0, .int .u64 a1] w fun e w' => e = .returned (.int .u64 r) ∧ Drawn0 w w' := by
  have GT := Aside0.mk hT
  clear hT
  have H : (if a0 = 0 then (whole_gcd.j0 k a0 a1 true) else (whole_gcd.j0 k a0 a1 (a1 == 0))) = some r := h
  clear h
  have HC3 := Aside0.mk H
  clear H
  go_enter Tryd.func85, Tryd.ntmps85
  go_upto_region 1 with (fail)
  go_cut [11] (fun v11 wc => ∃ (kq : Nat) (x11_2 : Bool), v11 = .bool x11_2 ∧ Aside0 (whole_gcd.j0 kq a0 a1 x11_2 = some r) ∧ Aside0 (kq ≤ k) ∧ Drawn0 w wc)
  case first =>
    have H := HC3.out
    clear HC3
    by_cases c4 : a0 = 0
    · rw [if_pos c4] at H
      have c4b0 : (a0 == 0) = true := beq_iff_eq.mpr c4
      have c4b1 : (a0 != 0) = false := bne_eq_false_iff_eq.mpr c4
      clear c4
      (first | rw [c4b0] | (simp only [i64_w, i32_w]; rw [c4b0]) | skip)
      have H' := Aside0.mk H
      clear H
      go_wp2
      go_meet
      case rel => exact ⟨_, (true), (aq), H', ⟨by first | omega | exact Nat.le_refl _⟩, dr⟩
    · rw [if_neg c4] at H
      have c4b0 : (a0 == 0) = false := beq_eq_false_iff_ne.mpr c4
      have c4b1 : (a0 != 0) = true := bne_iff_ne.mpr c4
      (first | rw [c4b0] | (simp only [i64_w, i32_w]; rw [c4b0]) | skip)
      have H' := Aside0.mk H
      clear H
      go_wp2
      go_meet
      case rel => exact ⟨_, ((a1 == 0)), (aq), H', ⟨by first | omega | exact Nat.le_refl _⟩, dr⟩
  case rest =>
    clear HC3
    try clear p2
    try clear c4
    try clear c4b0
    try clear c4b1
    obtain ⟨kq, x11_2, rfl, HA, HJ2, ⟨mc2, rfl⟩⟩ := hcut
    cases kq with
    | zero => exact absurd HA.out (by simp [whole_gcd.j0])
    | succ kj2 =>
      have H := HA.out
      clear HA
      simp only [whole_gcd.j0] at H
      by_cases c5 : x11_2 = true
      · subst c5
        have H1 : (some (Go.bits .or .u64 a0 a1)) = some r := by rw [if_pos rfl] at H; exact H
        clear H
        have H := H1
        clear H1
        obtain rfl := Option.some.inj H
        go_wp2
        go_ret
        exact ⟨aq, dr⟩
      · replace c5 := Bool.eq_false_iff.mpr c5
        subst c5
        have H1 : ((bits_TrailingZeros64.f (Go.bits .or .u64 a0 a1)).bind fun t101 => ((bits_TrailingZeros64.f a0).bind fun t102 => (if 0 ≤ t102 then (whole_gcd.l0 kj2 (shr .u64 a0 t102) a1 t101) else (none)))) = some r := by rw [if_neg (show ¬ (false = true) by decide)] at H; exact H
        clear H
        have H := H1
        clear H1
        replace H := bi_ H; obtain ⟨t101, A6, H⟩ := H
        (try dsimp only at H)
        replace H := bi_ H; obtain ⟨t102, A7, H⟩ := H
        (try dsimp only at H)
        by_cases c8 : 0 ≤ t102
        · rw [if_pos c8] at H
          have c8b0 := eq_true c8
          have c8b1 : decide (0 ≤ t102) = true := decide_eq_true c8
          clear c8
          obtain ⟨ji9, hji9⟩ : ∃ j_ : Int, (shr .u64 a0 t102) = j_ := ⟨_, rfl⟩
          replace H : (whole_gcd.l0 kj2 ji9 a1 t101) = some r := by first | (rw [hji9] at H; exact H) | (simp only [hji9] at H ⊢; exact H)
          (try rw [hji9] at A6)
          (try rw [hji9] at A7)
          have hji9_ : (a0 / 2 ^ min t102.toNat 64) = ji9 := hji9
          have hji9z : t102 ≤ 64 → (a0 / 2 ^ t102.toNat) = ji9 := shr_small hji9
          have H' := Aside0.mk H
          clear H
          go_wp2_with (first | ((with_reducible refine gc 99 rfl ?_); refine gm_ (some 18) rfl rfl Tryd.func99 (bits_TrailingZeros64.calls (Go.bits .or .u64 a0 a1) _ _ A6.out (tt GT)) ag ?_; rintro w' ⟨nd, rfl⟩) | ((with_reducible refine gc 99 rfl ?_); refine gm_ (some 21) rfl rfl Tryd.func99 (bits_TrailingZeros64.calls _ _ _ A7.out (tt GT)) ag ?_; rintro w' ⟨nd, rfl⟩))
          go_loopg [0, 1] kj2 (fun kq v0 v1 w' => ∃ (x0_2 : Int) (x1_2 : Int), v0 = .int .u64 x0_2 ∧ v1 = .int .u64 x1_2 ∧ Aside0 (whole_gcd.l0 kq x0_2 x1_2 t101 = some r) ∧ Aside0 (kq ≤ kj2) ∧ Drawn0 w w')
          case atStart => exact ⟨(ji9), (a1), (by first | rfl | (simp; done) | (simp only [← hji9] <;> (first | rfl | simp)) | (simp [*]; done)), (aq), H', ⟨Nat.le_refl _⟩, dr⟩
          case round =>
            clear H'
            try clear c2
            try clear p2
            try clear c4
            try clear c4b0
            try clear c4b1
            try clear c5
            try clear c8
            try clear c8b0
            try clear c8b1
            try clear c9
            try clear p2
            obtain ⟨x0_2, x1_2, rfl, rfl, HA, HK2, ⟨m2, rfl⟩⟩ := hrel
            cases gk with
            | zero => exact absurd HA.out (by simp [whole_gcd.l0])
            | succ k2 =>
              have H := HA.out
              clear HA
              simp only [whole_gcd.l0] at H
              by_cases c10 : x1_2 = 0
              · rw [if_pos c10] at H
                have c10b0 : (x1_2 == 0) = true := beq_iff_eq.mpr c10
                have c10b1 : (x1_2 != 0) = false := bne_eq_false_iff_eq.mpr c10
                clear c10
                by_cases c11 : 0 ≤ t101
                · rw [if_pos c11] at H
                  have c11b0 := eq_true c11
                  have c11b1 : decide (0 ≤ t101) = true := decide_eq_true c11
                  clear c11
                  obtain ⟨ji12, hji12⟩ : ∃ j_ : Int, (shl .u64 x0_2 t101) = j_ := ⟨_, rfl⟩
                  replace H : (some ji12) = some r := by first | (rw [hji12] at H; exact H) | (simp only [hji12] at H ⊢; exact H)
                  have hji12_ : (IntKind.u64.wrap (x0_2 * 2 ^ min t101.toNat 64)) = ji12 := hji12
                  have hji12z : t101 ≤ 64 → (IntKind.u64.wrap (x0_2 * 2 ^ t101.toNat)) = ji12 := shl_small hji12
                  obtain rfl := Option.some.inj H
                  go_wp2
                  go_ret
                  exact ⟨by first | rfl | (simp; done) | (simp only [← hji9, ← hji12] <;> (first | rfl | simp)) | (simp [*]; done), dr⟩
                · rw [if_neg c11] at H
                  exact absurd H (by simp)
              · rw [if_neg c10] at H
                have c10b0 : (x1_2 == 0) = false := beq_eq_false_iff_ne.mpr c10
                have c10b1 : (x1_2 != 0) = true := bne_iff_ne.mpr c10
                replace H := bi_ H; obtain ⟨t103, A13, H⟩ := H
                (try dsimp only at H)
                by_cases c14 : 0 ≤ t103
                · rw [if_pos c14] at H
                  have c14b0 := eq_true c14
                  have c14b1 : decide (0 ≤ t103) = true := decide_eq_true c14
                  clear c14
                  obtain ⟨ji15, hji15⟩ : ∃ j_ : Int, (shr .u64 x1_2 t103) = j_ := ⟨_, rfl⟩
                  replace H : (if x0_2 > (ji15) then (whole_gcd.l0 k2 ji15 (IntKind.u64.wrap (x0_2 - (ji15))) t101) else (whole_gcd.l0 k2 x0_2 (IntKind.u64.wrap ((ji15) - x0_2)) t101)) = some r := by first | (rw [hji15] at H; exact H) | (simp only [hji15] at H ⊢; exact H)
                  (try rw [hji15] at A13)
                  have hji15_ : (x1_2 / 2 ^ min t103.toNat 64) = ji15 := hji15
                  have hji15z : t103 ≤ 64 → (x1_2 / 2 ^ t103.toNat) = ji15 := shr_small hji15
                  by_cases c16 : x0_2 > (ji15)
                  · rw [if_pos c16] at H
                    have c16b0 : decide ((ji15) < x0_2) = true := decide_eq_true c16
                    clear c16
                    have H' := Aside0.mk H
                    clear H
                    go_wp2_with (first | ((with_reducible refine gc 99 rfl ?_); refine gm_ (some 27) rfl rfl Tryd.func99 (bits_TrailingZeros64.calls _ _ _ A13.out (tt GT)) ag ?_; rintro w' ⟨nd, rfl⟩))
                    go_roundg k2
                    case measure => have := HJ2.out; have := HK2.out; omega
                    case rel => exact ⟨(ji15), (IntKind.u64.wrap (x0_2 - (ji15))), (by first | rfl | (simp; done) | (simp only [← hji15] <;> (first | rfl | simp)) | (simp [*]; done)), (by first | rfl | (simp; done) | (simp only [← hji15] <;> (first | rfl | simp)) | (simp [*]; done)), H', ⟨by have := HJ2.out; have := HK2.out; omega⟩, dr⟩
                  · rw [if_neg c16] at H
                    have c16b0 : decide ((ji15) < x0_2) = false := decide_eq_false c16
                    clear c16
                    have H' := Aside0.mk H
                    clear H
                    go_wp2_with (first | ((with_reducible refine gc 99 rfl ?_); refine gm_ (some 27) rfl rfl Tryd.func99 (bits_TrailingZeros64.calls _ _ _ A13.out (tt GT)) ag ?_; rintro w' ⟨nd, rfl⟩))
                    go_roundg k2
                    case measure => have := HJ2.out; have := HK2.out; omega
                    case rel => exact ⟨(x0_2), (IntKind.u64.wrap ((ji15) - x0_2)), (aq), (by first | rfl | (simp; done) | (simp only [← hji15] <;> (first | rfl | simp)) | (simp [*]; done)), H', ⟨by have := HJ2.out; have := HK2.out; omega⟩, dr⟩
                · rw [if_neg c14] at H
                  exact absurd H (by simp)
        · rw [if_neg c8] at H
          exact absurd H (by simp)

/-! ### whole_size: function 86 -/
theorem whole_size.calls (a0 : Int) (r : Int) (w : World) (h : whole_size.f a0 = some r) :
    Calls Tryd.prog 86 #[.int .i64 a0] w fun e w' => e = .returned (.int .u64 r) ∧ Drawn0 w w' := by
  have H : (if a0 < 0 then (some (IntKind.u64.wrap (-(IntKind.u64.wrap (a0))))) else (some (IntKind.u64.wrap (a0)))) = some r := h
  clear h
  by_cases c2 : a0 < 0
  · rw [if_pos c2] at H
    have c2b0 : decide (a0 < 0) = true := decide_eq_true c2
    clear c2
    obtain rfl := Option.some.inj H
    go_enter Tryd.func86, Tryd.ntmps86
    go_wp2
    go_ret
    exact ⟨aq, dr⟩
  · rw [if_neg c2] at H
    have c2b0 : decide (a0 < 0) = false := decide_eq_false c2
    clear c2
    obtain rfl := Option.some.inj H
    go_enter Tryd.func86, Tryd.ntmps86
    go_wp2
    go_ret
    exact ⟨aq, dr⟩

/-! ### whole_Gcd: function 63 -/
theorem whole_Gcd.calls (k : Nat) (a0 : Int) (a1 : Int) (r1 : Int) (r2 : Int) (w : World) (h : whole_Gcd.f k a0 a1 = some (r1, r2)) (hT : TabOK w) :
    Calls Tryd.prog 63 #[.int .i64 a0, .int .i64 a1] w fun e w' => e = .returned (.tuple #[.int .i64 r1, .int .i64 r2]) ∧ Drawn0 w w' := by
  have GT := Aside0.mk hT
  clear hT
  have H : ((whole_size.f a0).bind fun t104 => ((whole_size.f a1).bind fun t105 => ((whole_gcd.f k t104 t105).bind fun t106 => ((whole_signed.f k t106 1).bind fun bt107 => (some (bt107.1, bt107.2)))))) = some (r1, r2) := h
  clear h
  replace H := bi_ H; obtain ⟨t104, A3, H⟩ := H
  (try dsimp only at H)
  replace H := bi_ H; obtain ⟨t105, A4, H⟩ := H
  (try dsimp only at H)
  replace H := bi_ H; obtain ⟨t106, A5, H⟩ := H
  (try dsimp only at H)
  replace H := bi_ H; obtain ⟨⟨t107, t108⟩, A6, H⟩ := H
  (try dsimp only at H)
  simp only [Option.some.injEq, Prod.mk.injEq] at H
  obtain ⟨rfl, rfl⟩ := H
  go_enter Tryd.func63, Tryd.ntmps63
  go_wp2_with (first | ((with_reducible refine gc 86 rfl ?_); refine gm_ (some 7) rfl rfl Tryd.func86 (whole_size.calls _ _ _ A3.out) ag ?_; rintro w' ⟨nd, rfl⟩) | ((with_reducible refine gc 86 rfl ?_); refine gm_ (some 9) rfl rfl Tryd.func86 (whole_size.calls _ _ _ A4.out) ag ?_; rintro w' ⟨nd, rfl⟩) | ((with_reducible refine gc 85 rfl ?_); refine gm_ (some 10) rfl rfl Tryd.func85 (whole_gcd.calls _ _ _ _ _ A5.out (tt GT)) ag ?_; rintro w' ⟨nd, rfl⟩) | ((with_reducible refine gc 84 rfl ?_); refine gm_ (some 11) rfl rfl Tryd.func84 (whole_signed.calls _ _ _ _ _ _ A6.out) ag ?_; rintro w' ⟨nd, rfl⟩))
  go_ret2
  exact ⟨aq, dr⟩

/-! ### frac_Right: function 33 -/
theorem frac_Right.calls (k : Nat) (a0_0 : Int) (a0_1 : Int) (r : Bool) (w : World) (h : frac_Right.f k a0_0 a0_1 = some r) (hT : TabOK w) :
    Calls Tryd.prog 33 #[.agg #[.int .i64 a0_0, .int .i64 a0_1]] w fun e w' => e = .returned (.bool r) ∧ Below w.heap.size w w' := by
  have GT := Aside0.mk hT
  clear hT
  have hu23 := Tryd.underlying23
  have HB := Aside0.mk (Below.refl w.heap.size w)
  have H : ((whole_Gcd.f k a0_0 a0_1).bind fun bt110 => (if a0_1 ≥ 1 then (if bt110.2 = 0 then (some (bt110.1 == 1)) else (some false)) else (some false))) = some r := h
  clear h
  replace H := bi_ H; obtain ⟨⟨t110, t111⟩, A2, H⟩ := H
  (try dsimp only at H)
  by_cases c3 : a0_1 ≥ 1
  · rw [if_pos c3] at H
    have c3b0 : decide (1 ≤ a0_1) = true := decide_eq_true c3
    clear c3
    by_cases c4 : t111 = 0
    · rw [if_pos c4] at H
      have c4b0 : (t111 == 0) = true := beq_iff_eq.mpr c4
      have c4b1 : (t111 != 0) = false := bne_eq_false_iff_eq.mpr c4
      clear c4
      obtain rfl := Option.some.inj H
      go_enter Tryd.func33, Tryd.ntmps33
      go_wp2_with (first | ((with_reducible refine gd 1 rfl ?_); refine bx_ 1 23 #[.int .i64 a0_0, .int .i64 a0_1] rfl rfl ?_; intro gb109 hg w5 BK109 hb; have GE109 := bz HB hg; replace HB := bs HB hb; clear hb hg; have hcz6 := k2 BK109) | ((with_reducible refine gc 63 rfl ?_); refine gm_ (some 10) rfl rfl Tryd.func63 (whole_Gcd.calls _ _ _ _ _ _ A2.out (tt GT)) ag ?_; rintro w' ⟨nd, rfl⟩))
      go_ret
      exact ⟨ae, bf HB⟩
    · rw [if_neg c4] at H
      have c4b0 : (t111 == 0) = false := beq_eq_false_iff_ne.mpr c4
      have c4b1 : (t111 != 0) = true := bne_iff_ne.mpr c4
      obtain rfl := Option.some.inj H
      go_enter Tryd.func33, Tryd.ntmps33
      go_wp2_with (first | ((with_reducible refine gd 1 rfl ?_); refine bx_ 1 23 #[.int .i64 a0_0, .int .i64 a0_1] rfl rfl ?_; intro gb109 hg w7 BK109 hb; have GE109 := bz HB hg; replace HB := bs HB hb; clear hb hg; have hcz8 := k2 BK109) | ((with_reducible refine gc 63 rfl ?_); refine gm_ (some 10) rfl rfl Tryd.func63 (whole_Gcd.calls _ _ _ _ _ _ A2.out (tt GT)) ag ?_; rintro w' ⟨nd, rfl⟩))
      go_ret
      exact ⟨ae, bf HB⟩
  · rw [if_neg c3] at H
    have c3b0 : decide (1 ≤ a0_1) = false := decide_eq_false c3
    clear c3
    obtain rfl := Option.some.inj H
    go_enter Tryd.func33, Tryd.ntmps33
    go_wp2_with (first | ((with_reducible refine gd 1 rfl ?_); refine bx_ 1 23 #[.int .i64 a0_0, .int .i64 a0_1] rfl rfl ?_; intro gb109 hg w9 BK109 hb; have GE109 := bz HB hg; replace HB := bs HB hb; clear hb hg; have hcz10 := k2 BK109) | ((with_reducible refine gc 63 rfl ?_); refine gm_ (some 10) rfl rfl Tryd.func63 (whole_Gcd.calls _ _ _ _ _ _ A2.out (tt GT)) ag ?_; rintro w' ⟨nd, rfl⟩))
    go_ret
    exact ⟨ae, bf HB⟩

/-! ### frac_wide_zero: function 100 -/
theorem frac_wide_zero.calls (a0_0 : Int) (a0_1 : Int) (r : Bool) (w : World) (h : frac_wide_zero.f a0_0 a0_1 = some r) :
    Calls Tryd.prog 100 #[.agg #[.int .u64 a0_0, .int .u64 a0_1]] w fun e w' => e = .returned (.bool r) ∧ Below w.heap.size w w' := by
  have hu104 := Tryd.underlying104
  have HB := Aside0.mk (Below.refl w.heap.size w)
  have H : (some ((Go.bits .or .u64 a0_0 a0_1) == 0)) = some r := h
  clear h
  obtain rfl := Option.some.inj H
  go_enter Tryd.func100, Tryd.ntmps100
  go_wp2_with (first | ((with_reducible refine gd 1 rfl ?_); refine bx_ 1 104 #[.int .u64 a0_0, .int .u64 a0_1] rfl rfl ?_; intro gb112 hg w2 BK112 hb; have GE112 := bz HB hg; replace HB := bs HB hb; clear hb hg; have hcz3 := k2 BK112))
  go_ret
  exact ⟨ae, bf HB⟩

/-! ### frac_wide_twos: function 101 -/
theorem frac_wide_twos.calls (a0_0 : Int) (a0_1 : Int) (r : Int) (w : World) (h : frac_wide_twos.f a0_0 a0_1 = some r) (hT : TabOK w) :
    Calls Tryd.prog 101 #[.agg #[.int .u64 a0_0, .int .u64 a0_1]] w fun e w' => e = .returned (.int .i64 r) ∧ Below w.heap.size w w' := by
  have GT := Aside0.mk hT
  clear hT
  have hu104 := Tryd.underlying104
  have HB := Aside0.mk (Below.refl w.heap.size w)
  have H : (if a0_1 = 0 then ((bits_TrailingZeros64.f a0_0).bind fun t114 => (some (wrap64 (64 + t114)))) else ((bits_TrailingZeros64.f a0_1).bind fun t115 => (some t115))) = some r := h
  clear h
  by_cases c2 : a0_1 = 0
  · rw [if_pos c2] at H
    have c2b0 : (a0_1 == 0) = true := beq_iff_eq.mpr c2
    have c2b1 : (a0_1 != 0) = false := bne_eq_false_iff_eq.mpr c2
    clear c2
    replace H := bi_ H; obtain ⟨t114, A3, H⟩ := H
    (try dsimp only at H)
    obtain rfl := Option.some.inj H
    go_enter Tryd.func101, Tryd.ntmps101
    go_wp2_with (first | ((with_reducible refine gd 1 rfl ?_); refine bx_ 1 104 #[.int .u64 a0_0, .int .u64 a0_1] rfl rfl ?_; intro gb113 hg w4 BK113 hb; have GE113 := bz HB hg; replace HB := bs HB hb; clear hb hg; have hcz5 := k2 BK113) | ((with_reducible refine gc 99 rfl ?_); refine gm_ (some 8) rfl rfl Tryd.func99 (bits_TrailingZeros64.calls _ _ _ A3.out (tt GT)) ag ?_; rintro w' ⟨nd, rfl⟩))
    go_ret
    exact ⟨ae, bf HB⟩
  · rw [if_neg c2] at H
    have c2b0 : (a0_1 == 0) = false := beq_eq_false_iff_ne.mpr c2
    have c2b1 : (a0_1 != 0) = true := bne_iff_ne.mpr c2
    replace H := bi_ H; obtain ⟨t115, A6, H⟩ := H
    (try dsimp only at H)
    obtain rfl := Option.some.inj H
    go_enter Tryd.func101, Tryd.ntmps101
    go_wp2_with (first | ((with_reducible refine gd 1 rfl ?_); refine bx_ 1 104 #[.int .u64 a0_0, .int .u64 a0_1] rfl rfl ?_; intro gb113 hg w7 BK113 hb; have GE113 := bz HB hg; replace HB := bs HB hb; clear hb hg; have hcz8 := k2 BK113) | ((with_reducible refine gc 99 rfl ?_); refine gm_ (some 12) rfl rfl Tryd.func99 (bits_TrailingZeros64.calls _ _ _ A6.out (tt GT)) ag ?_; rintro w' ⟨nd, rfl⟩))
    go_ret
    exact ⟨ae, bf HB⟩

/-! ### frac_wide_down: function 102 -/
def frac_wide_down.T3 : Bool × List (List Nat × List Nat) := (true, [([], []), ([0], [0]), ([], []), ([1, 2], [1, 2]), ([], []), ([4], [4]), ([], []), ([5, 6], [5, 6]), ([], []), ([8], [8]), ([], []), ([10], [10]), ([9, 11], [9, 11]), ([7, 12], [7, 12]), ([3, 13], [3, 13]), ([14, 0, 1, 2, 3, 4, 5, 6, 7, 8, 9, 10, 11, 12, 13, 14], [14])])
def frac_wide_down.B3 : List Nat := [0, 1, 0, 7, 0, 16, 0, 112, 0, 256, 0, 1024, 3840, 8176, 16383, 32767]
theorem frac_wide_down.tab3 : rtab .any (opsOf Tryd.f102 3) = frac_wide_down.T3 := by kernel_rfl
theorem frac_wide_down.bits3 : waitsOk frac_wide_down.T3.2 frac_wide_down.B3 = true := by kernel_rfl
theorem frac_wide_down.calls (a0_0 : Int) (a0_1 : Int) (a1 : Int) (r1 : Int) (r2 : Int) (w : World) (h : frac_wide_down.f a0_0 a0_1 a1 = some (r1, r2)) :
    Calls Tryd.prog 102 #[.agg #[.int .u64 a0_0, .int .u64 a0_1], .int .i64 a1] w fun e w' => e = .returned (.agg #[.int .u64 r1, .int .u64 r2]) ∧ Below w.heap.size w w' := by
  have hu104 := Tryd.underlying104
  have HB := Aside0.mk (Below.refl w.heap.size w)
  have H : (if a1 ≥ 64 then (if 0 ≤ (wrap64 (a1 - 64)) then (some (0, shr .u64 a0_0 (wrap64 (a1 - 64)))) else (none)) else (if 0 ≤ a1 then (if 0 ≤ (wrap64 (64 - a1)) then (some (shr .u64 a0_0 a1, Go.bits .or .u64 (shr .u64 a0_1 a1) (shl .u64 a0_0 (wrap64 (64 - a1))))) else (none)) else (none))) = some (r1, r2) := h
  clear h
  by_cases c3 : a1 ≥ 64
  · rw [if_pos c3] at H
    have c3b0 : decide (64 ≤ a1) = true := decide_eq_true c3
    clear c3
    obtain ⟨ji4, hji4⟩ : ∃ j_ : Int, (wrap64 (a1 - 64)) = j_ := ⟨_, rfl⟩
    replace H : (if 0 ≤ (ji4) then (some (0, shr .u64 a0_0 (ji4))) else (none)) = some (r1, r2) := by first | (rw [hji4] at H; exact H) | (simp only [hji4] at H ⊢; exact H)
    have hji4w : (IntKind.i64.wrap (a1 - 64)) = ji4 := (i64_w _).trans hji4
    by_cases c5 : 0 ≤ (ji4)
    · rw [if_pos c5] at H
      have c5b0 := eq_true c5
      have c5b1 : decide (0 ≤ (ji4)) = true := decide_eq_true c5
      clear c5
      obtain ⟨ji6, hji6⟩ : ∃ j_ : Int, (shr .u64 a0_0 (ji4)) = j_ := ⟨_, rfl⟩
      replace H : (some (0, ji6)) = some (r1, r2) := by first | (rw [hji6] at H; exact H) | (simp only [hji6] at H ⊢; exact H)
      have hji6_ : (a0_0 / 2 ^ min (ji4).toNat 64) = ji6 := hji6
      have hji6z : (ji4) ≤ 64 → (a0_0 / 2 ^ (ji4).toNat) = ji6 := shr_small hji6
      simp only [Option.some.injEq, Prod.mk.injEq] at H
      obtain ⟨rfl, rfl⟩ := H
      go_enter Tryd.func102, Tryd.ntmps102
      go_wp2_with (first | ((with_reducible refine gd 2 rfl ?_); refine bx_ 2 104 #[.int .u64 a0_0, .int .u64 a0_1] rfl rfl ?_; intro gb116 hg w7 BK116 hb; have GE116 := bz HB hg; replace HB := bs HB hb; clear hb hg) | ((with_reducible refine gd 4 rfl ?_); refine bx_ 4 104 #[.int .u64 0, .int .u64 0] rfl rfl ?_; intro gb117 hg w8 BK117 hb; have GE117 := bz HB hg; have ⟨NB116_117, NB117_116⟩ := nb BK116 hg; replace BK116 := bb BK116 hb; replace HB := bs HB hb; clear hb hg; have hnb9 := nn NB116_117; have hcz10 := k2 BK116; have hcz11 := k2 BK117))
      refine bodyPost_ret (results_cell_row rfl _ _ gb117 104 #[.int .u64 0, .int .u64 ji6] (0, 0) _ rfl (br_ BK117) Tryd.underlying104 rfl (by kernel_rfl)) rfl ?_
      exact ⟨by first | rfl | (simp [errW_none, errW_some] <;> rfl) | (simp only [← hji4, ← hji6]; first | rfl | (simp [errW_none, errW_some] <;> rfl)) | (simp [*, errW_none, errW_some] <;> rfl), bf HB⟩
    · rw [if_neg c5] at H
      exact absurd H (by simp)
  · rw [if_neg c3] at H
    have c3b0 : decide (64 ≤ a1) = false := decide_eq_false c3
    clear c3
    by_cases c12 : 0 ≤ a1
    · rw [if_pos c12] at H
      have c12b0 := eq_true c12
      have c12b1 : decide (0 ≤ a1) = true := decide_eq_true c12
      clear c12
      obtain ⟨ji13, hji13⟩ : ∃ j_ : Int, (shr .u64 a0_0 a1) = j_ := ⟨_, rfl⟩
      replace H : (if 0 ≤ (wrap64 (64 - a1)) then (some (ji13, Go.bits .or .u64 (shr .u64 a0_1 a1) (shl .u64 a0_0 (wrap64 (64 - a1))))) else (none)) = some (r1, r2) := by first | (rw [hji13] at H; exact H) | (simp only [hji13] at H ⊢; exact H)
      have hji13_ : (a0_0 / 2 ^ min a1.toNat 64) = ji13 := hji13
      have hji13z : a1 ≤ 64 → (a0_0 / 2 ^ a1.toNat) = ji13 := shr_small hji13
      have c14b0 := eq_true (of_decide_eq_true (by first | (with_reducible assumption) | assumption) : 0 ≤ a1)
      obtain ⟨ji15, hji15⟩ : ∃ j_ : Int, (shr .u64 a0_1 a1) = j_ := ⟨_, rfl⟩
      replace H : (if 0 ≤ (wrap64 (64 - a1)) then (some (ji13, Go.bits .or .u64 (ji15) (shl .u64 a0_0 (wrap64 (64 - a1))))) else (none)) = some (r1, r2) := by first | (rw [hji15] at H; exact H) | (simp only [hji15] at H ⊢; exact H)
      have hji15_ : (a0_1 / 2 ^ min a1.toNat 64) = ji15 := hji15
      have hji15z : a1 ≤ 64 → (a0_1 / 2 ^ a1.toNat) = ji15 := shr_small hji15
      obtain ⟨ji16, hji16⟩ : ∃ j_ : Int, (wrap64 (64 - a1)) = j_ := ⟨_, rfl⟩
      replace H : (if 0 ≤ (ji16) then (some (ji13, Go.bits .or .u64 (ji15) (shl .u64 a0_0 (ji16)))) else (none)) = some (r1, r2) := by first | (rw [hji16] at H; exact H) | (simp only [hji16] at H ⊢; exact H)
      have hji16w : (IntKind.i64.wrap (64 - a1)) = ji16 := (i64_w _).trans hji16
      by_cases c17 : 0 ≤ (ji16)
      · rw [if_pos c17] at H
        have c17b0 := eq_true c17
        have c17b1 : decide (0 ≤ (ji16)) = true := decide_eq_true c17
        clear c17
        obtain ⟨ji18, hji18⟩ : ∃ j_ : Int, (shl .u64 a0_0 (ji16)) = j_ := ⟨_, rfl⟩
        replace H : (some (ji13, Go.bits .or .u64 (ji15) (ji18))) = some (r1, r2) := by first | (rw [hji18] at H; exact H) | (simp only [hji18] at H ⊢; exact H)
        have hji18_ : (IntKind.u64.wrap (a0_0 * 2 ^ min (ji16).toNat 64)) = ji18 := hji18
        have hji18z : (ji16) ≤ 64 → (IntKind.u64.wrap (a0_0 * 2 ^ (ji16).toNat)) = ji18 := shl_small hji18
        simp only [Option.some.injEq, Prod.mk.injEq] at H
        obtain ⟨rfl, rfl⟩ := H
        go_enter Tryd.func102, Tryd.ntmps102
        try go_wp2_with (first | ((with_reducible refine gd 2 rfl ?_); refine bx_ 2 104 #[.int .u64 a0_0, .int .u64 a0_1] rfl rfl ?_; intro gb116 hg w19 BK116 hb; have GE116 := bz HB hg; replace HB := bs HB hb; clear hb hg) | ((with_reducible refine gd 4 rfl ?_); refine bx_ 4 104 #[.int .u64 0, .int .u64 0] rfl rfl ?_; intro gb117 hg w20 BK117 hb; have GE117 := bz HB hg; have ⟨NB116_117, NB117_116⟩ := nb BK116 hg; replace BK116 := bb BK116 hb; replace HB := bs HB hb; clear hb hg))
        replace BK116 := Aside0.mk (blk_drew BK116.out)
        replace BK117 := Aside0.mk (blk_drew BK117.out)
        replace HB := Aside0.mk (below_drew1 HB.out)
        refine start_ (n := 16) (S := fun w' => c_ w' gb116 0 (.int .u64 a0_0) ∧ c_ w' gb116 1 (.int .u64 a0_1)) (ds := []) (m_ 16 0) (by kernel_rfl) rfl rfl ⟨ct BK116 0, ct BK116 1⟩ (fun hHeld => ?_); refine with_tabW frac_wide_down.tab3 frac_wide_down.bits3 (fun HT_ HW_ => ?_)
        generalize w20.drew = w21 at BK116 BK117 HB hHeld ⊢
        refine pu_ 0 (some 13) (m_ 16 1) rfl rfl (ao HT_) ?_
        refine pu_ 2 (some 15) (m_ 16 5) rfl rfl (ao HT_) ?_
        refine pu_ 4 (some 17) (m_ 16 21) rfl rfl (ao HT_) ?_
        refine pu_ 6 (some 19) (m_ 16 85) rfl rfl (ao HT_) ?_
        refine pu_ 8 (some 21) (m_ 16 341) rfl rfl (ao HT_) ?_
        refine pu_ 10 (some 23) (m_ 16 1365) rfl rfl (ao HT_) ?_
        refine pu_ 11 (some 24) (m_ 16 3413) rfl rfl (ao HT_) ?_
        refine tk_ 1 (some 14) (m_ 16 3415) rfl rfl (tw HT_ HW_) hHeld ?_
        refine pu_ 3 (some 16) (m_ 16 3423) rfl rfl (ao HT_) ?_
        refine tk_ 5 (some 18) (m_ 16 3455) rfl rfl (tw HT_ HW_) hHeld ?_
        refine pu_ 7 (some 20) (m_ 16 3583) rfl rfl (ao HT_) ?_
        refine tk_ 9 (some 22) (m_ 16 4095) rfl rfl (tw HT_ HW_) hHeld ?_
        refine pu_ 12 (some 25) (m_ 16 8191) rfl rfl (ao HT_) ?_
        refine pu_ 13 (some 26) (m_ 16 16383) rfl rfl (ao HT_) ?_
        refine pu_ 14 (some 27) (m_ 16 32767) rfl rfl (ao HT_) ?_
        refine o1_ 15 (none) (m_ 16 65535) rfl rfl (oo HT_) (fun K hK => ?_)
        have hs22 : c_ w21 gb117 0 (.int .u64 0) := ct BK117 0
        have hfs22 := blk_frozen BK117.out 0
        have hns22_0 := nn NB116_117
        have hs23 : c_ w21 gb117 1 (.int .u64 0) := ct BK117 1
        have hfs23 := blk_frozen BK117.out 1
        have hns23_0 := nn NB116_117
        refine skip_ (w1 := ?_) (by rfl) rfl ?_ ?_
        rotate_left
        · go_simp
          rfl
        refine hK.out _ _ ⟨((cell_far (p := ⟨gb117, _, none⟩) NB116_117.out _).trans (((cell_far (p := ⟨gb117, _, none⟩) NB116_117.out _).trans (hHeld.1)))), ((cell_far (p := ⟨gb117, _, none⟩) NB116_117.out _).trans (((cell_far (p := ⟨gb117, _, none⟩) NB116_117.out _).trans (hHeld.2))))⟩ (fun hHeld => ?_)
        clear hK K
        refine done_ (done_of HT_.out (by kernel_rfl)) ?_
        try go_wp2
        refine bodyPost_ret (results_cell_row rfl _ _ gb117 104 #[.int .u64 ji13, .int .u64 (Go.bits .or .u64 (ji15) (ji18))] (0, 0) _ rfl (br_ BK117) Tryd.underlying104 rfl (by kernel_rfl)) rfl ?_
        exact ⟨by first | rfl | (simp [errW_none, errW_some] <;> rfl) | (simp only [← hji13, ← hji15, ← hji16, ← hji18]; first | rfl | (simp [errW_none, errW_some] <;> rfl)) | (simp [*, errW_none, errW_some] <;> rfl), bf HB⟩
      · rw [if_neg c17] at H
        exact absurd H (by simp)
    · rw [if_neg c12] at H
      exact absurd H (by simp)

/-! ### frac_wide_cmp: function 103 -/
theorem frac_wide_cmp.calls (a0_0 : Int) (a0_1 : Int) (a1_0 : Int) (a1_1 : Int) (r : Int) (w : World) (h : frac_wide_cmp.f a0_0 a0_1 a1_0 a1_1 = some r) :
    Calls Tryd.prog 103 #[.agg #[.int .u64 a0_0, .int .u64 a0_1], .agg #[.int .u64 a1_0, .int .u64 a1_1]] w fun e w' => e = .returned (.int .i64 r) ∧ Below w.heap.size w w' := by
  have hu104 := Tryd.underlying104
  have HB := Aside0.mk (Below.refl w.heap.size w)
  have H : (if (a0_0 == a1_0 && (a0_1 == a1_1)) = true then (some 0) else (if a0_0 < a1_0 then (some (-1)) else (if a0_0 = a1_0 then (if a0_1 < a1_1 then (some (-1)) else (some 1)) else (some 1)))) = some r := h
  clear h
  by_cases c3 : (a0_0 == a1_0 && (a0_1 == a1_1)) = true
  · rw [if_pos c3] at H
    have c3b0 : (a0_0 == a1_0 && (a0_1 == a1_1)) = true := c3
    (try (have c3b1 : decide (a0_0 = a1_0 && (a0_1 == a1_1)) = true := by simpa using c3))
    (try (have c3b2 : (a0_0 == a1_0 && (a0_1 == a1_1)) = true := by simpa using c3))
    clear c3
    obtain rfl := Option.some.inj H
    go_enter Tryd.func103, Tryd.ntmps103
    go_wp2_with (first | ((with_reducible refine gd 2 rfl ?_); refine bx_ 2 104 #[.int .u64 a0_0, .int .u64 a0_1] rfl rfl ?_; intro gb118 hg w4 BK118 hb; have GE118 := bz HB hg; replace HB := bs HB hb; clear hb hg) | ((with_reducible refine gd 3 rfl ?_); refine bx_ 3 104 #[.int .u64 a1_0, .int .u64 a1_1] rfl rfl ?_; intro gb119 hg w5 BK119 hb; have GE119 := bz HB hg; have ⟨NB118_119, NB119_118⟩ := nb BK118 hg; replace BK118 := bb BK118 hb; replace HB := bs HB hb; clear hb hg; have hnb6 := nn NB118_119; have hcz7 := k2 BK118; have hcz8 := k2 BK119))
    all_goals first | (go_ret; refine ⟨?ea_, ?eb_⟩; (case ea_ => (first | rfl | (simp [errW_none, errW_some] <;> rfl) | (simp [*, errW_none, errW_some] <;> rfl))); (case eb_ => (repeat (first | (with_reducible first | exact HB.out | apply below_alloc | apply pw_below_drewN | apply below_drew1 | refine below_set ?_ GE118.out | refine below_set ?_ GE119.out) | exact HB.out)))) | (exfalso; simp_all; done)
  · rw [if_neg c3] at H
    have c3b0 : (a0_0 == a1_0 && (a0_1 == a1_1)) = false := by simpa using c3
    (try (have c3b1 : decide (a0_0 = a1_0 && (a0_1 == a1_1)) = false := by simpa using c3))
    (try (have c3b2 : (a0_0 == a1_0 && (a0_1 == a1_1)) = false := by simpa using c3))
    (try (have c3b3 : ¬ (a0_0 = a1_0 && (a0_1 == a1_1)) := by simpa using c3))
    clear c3
    by_cases c9 : a0_0 < a1_0
    · rw [if_pos c9] at H
      have c9b0 : decide (a0_0 < a1_0) = true := decide_eq_true c9
      clear c9
      obtain rfl := Option.some.inj H
      go_enter Tryd.func103, Tryd.ntmps103
      go_wp2_with (first | ((with_reducible refine gd 2 rfl ?_); refine bx_ 2 104 #[.int .u64 a0_0, .int .u64 a0_1] rfl rfl ?_; intro gb118 hg w10 BK118 hb; have GE118 := bz HB hg; replace HB := bs HB hb; clear hb hg) | ((with_reducible refine gd 3 rfl ?_); refine bx_ 3 104 #[.int .u64 a1_0, .int .u64 a1_1] rfl rfl ?_; intro gb119 hg w11 BK119 hb; have GE119 := bz HB hg; have ⟨NB118_119, NB119_118⟩ := nb BK118 hg; replace BK118 := bb BK118 hb; replace HB := bs HB hb; clear hb hg; have hnb12 := nn NB118_119; have hcz13 := k2 BK118; have hcz14 := k2 BK119))
      all_goals first | (go_ret; refine ⟨?ea_, ?eb_⟩; (case ea_ => (first | rfl | (simp [errW_none, errW_some] <;> rfl) | (simp [*, errW_none, errW_some] <;> rfl))); (case eb_ => (repeat (first | (with_reducible first | exact HB.out | apply below_alloc | apply pw_below_drewN | apply below_drew1 | refine below_set ?_ GE118.out | refine below_set ?_ GE119.out) | exact HB.out)))) | (exfalso; simp_all; done)
    · rw [if_neg c9] at H
      have c9b0 : decide (a0_0 < a1_0) = false := decide_eq_false c9
      clear c9
      by_cases c15 : a0_0 = a1_0
      · rw [if_pos c15] at H
        have c15b0 : (a0_0 == a1_0) = true := beq_iff_eq.mpr c15
        have c15b1 : (a0_0 != a1_0) = false := bne_eq_false_iff_eq.mpr c15
        clear c15
        by_cases c16 : a0_1 < a1_1
        · rw [if_pos c16] at H
          have c16b0 : decide (a0_1 < a1_1) = true := decide_eq_true c16
          clear c16
          obtain rfl := Option.some.inj H
          go_enter Tryd.func103, Tryd.ntmps103
          go_wp2_with (first | ((with_reducible refine gd 2 rfl ?_); refine bx_ 2 104 #[.int .u64 a0_0, .int .u64 a0_1] rfl rfl ?_; intro gb118 hg w17 BK118 hb; have GE118 := bz HB hg; replace HB := bs HB hb; clear hb hg) | ((with_reducible refine gd 3 rfl ?_); refine bx_ 3 104 #[.int .u64 a1_0, .int .u64 a1_1] rfl rfl ?_; intro gb119 hg w18 BK119 hb; have GE119 := bz HB hg; have ⟨NB118_119, NB119_118⟩ := nb BK118 hg; replace BK118 := bb BK118 hb; replace HB := bs HB hb; clear hb hg; have hnb19 := nn NB118_119; have hcz20 := k2 BK118; have hcz21 := k2 BK119))
          all_goals first | (go_ret; refine ⟨?ea_, ?eb_⟩; (case ea_ => (first | rfl | (simp [errW_none, errW_some] <;> rfl) | (simp [*, errW_none, errW_some] <;> rfl))); (case eb_ => (repeat (first | (with_reducible first | exact HB.out | apply below_alloc | apply pw_below_drewN | apply below_drew1 | refine below_set ?_ GE118.out | refine below_set ?_ GE119.out) | exact HB.out)))) | (exfalso; simp_all; done)
        · rw [if_neg c16] at H
          have c16b0 : decide (a0_1 < a1_1) = false := decide_eq_false c16
          clear c16
          obtain rfl := Option.some.inj H
          go_enter Tryd.func103, Tryd.ntmps103
          go_wp2_with (first | ((with_reducible refine gd 2 rfl ?_); refine bx_ 2 104 #[.int .u64 a0_0, .int .u64 a0_1] rfl rfl ?_; intro gb118 hg w22 BK118 hb; have GE118 := bz HB hg; replace HB := bs HB hb; clear hb hg) | ((with_reducible refine gd 3 rfl ?_); refine bx_ 3 104 #[.int .u64 a1_0, .int .u64 a1_1] rfl rfl ?_; intro gb119 hg w23 BK119 hb; have GE119 := bz HB hg; have ⟨NB118_119, NB119_118⟩ := nb BK118 hg; replace BK118 := bb BK118 hb; replace HB := bs HB hb; clear hb hg; have hnb24 := nn NB118_119; have hcz25 := k2 BK118; have hcz26 := k2 BK119))
          all_goals first | (go_ret; refine ⟨?ea_, ?eb_⟩; (case ea_ => (first | rfl | (simp [errW_none, errW_some] <;> rfl) | (simp [*, errW_none, errW_some] <;> rfl))); (case eb_ => (repeat (first | (with_reducible first | exact HB.out | apply below_alloc | apply pw_below_drewN | apply below_drew1 | refine below_set ?_ GE118.out | refine below_set ?_ GE119.out) | exact HB.out)))) | (exfalso; simp_all; done)
      · rw [if_neg c15] at H
        have c15b0 : (a0_0 == a1_0) = false := beq_eq_false_iff_ne.mpr c15
        have c15b1 : (a0_0 != a1_0) = true := bne_iff_ne.mpr c15
        obtain rfl := Option.some.inj H
        go_enter Tryd.func103, Tryd.ntmps103
        go_wp2_with (first | ((with_reducible refine gd 2 rfl ?_); refine bx_ 2 104 #[.int .u64 a0_0, .int .u64 a0_1] rfl rfl ?_; intro gb118 hg w27 BK118 hb; have GE118 := bz HB hg; replace HB := bs HB hb; clear hb hg) | ((with_reducible refine gd 3 rfl ?_); refine bx_ 3 104 #[.int .u64 a1_0, .int .u64 a1_1] rfl rfl ?_; intro gb119 hg w28 BK119 hb; have GE119 := bz HB hg; have ⟨NB118_119, NB119_118⟩ := nb BK118 hg; replace BK118 := bb BK118 hb; replace HB := bs HB hb; clear hb hg; have hnb29 := nn NB118_119; have hcz30 := k2 BK118; have hcz31 := k2 BK119))
        all_goals first | (go_ret; refine ⟨?ea_, ?eb_⟩; (case ea_ => (first | rfl | (simp [errW_none, errW_some] <;> rfl) | (simp [*, errW_none, errW_some] <;> rfl))); (case eb_ => (repeat (first | (with_reducible first | exact HB.out | apply below_alloc | apply pw_below_drewN | apply below_drew1 | refine below_set ?_ GE118.out | refine below_set ?_ GE119.out) | exact HB.out)))) | (exfalso; simp_all; done)


/-! ### bits_Sub64: function 112 -/
theorem run_sub64 (x y b : Nat) (hb : b ≤ 1) (w : World) :
    (sub64Entry #[.int .u64 x, .int .u64 y, .int .u64 b]).run Tryd.prog w =
      .ok (.tuple #[.int .u64 (((x + 18446744073709551616 - y - b) % 18446744073709551616 : Nat) : Int), .int .u64 ((if x < y + b then 1 else 0 : Nat) : Int)]) w := by
  have : b = 0 ∨ b = 1 := by omega
  rcases this with rfl | rfl <;> rfl
theorem bits_Sub64.calls (a0 a1 a2 r1 r2 : Int) (w : World) (h : bits_Sub64.f a0 a1 a2 = some (r1, r2)) :
    XCalls Tryd.prog 112 #[.int .u64 a0, .int .u64 a1, .int .u64 a2] w fun e w' => e = .returned (.tuple #[.int .u64 r1, .int .u64 r2]) ∧ w = w' := by
  unfold bits_Sub64.f at h
  by_cases c : 0 ≤ a0 ∧ 0 ≤ a1 ∧ a1 < 18446744073709551616 ∧ 0 ≤ a2 ∧ a2 ≤ 1
  · rw [if_pos c] at h
    simp only [Option.some.injEq, Prod.mk.injEq] at h
    obtain ⟨rfl, rfl⟩ := h
    obtain ⟨h0, h1, h2, h3, h4⟩ := c
    refine ⟨_, ?_, rfl, rfl⟩
    obtain ⟨x, rfl⟩ := Int.eq_ofNat_of_zero_le h0
    obtain ⟨y, rfl⟩ := Int.eq_ofNat_of_zero_le h1
    obtain ⟨b, rfl⟩ := Int.eq_ofNat_of_zero_le h3
    have e1 : (((x + 18446744073709551616 - y - b) % 18446744073709551616 : Nat) : Int) = ((x : Int) - y - b) % 18446744073709551616 := by omega
    have e2 : ((if x < y + b then 1 else 0 : Nat) : Int) = if (x : Int) < y + b then 1 else 0 := by split <;> split <;> omega
    rw [← e1, ← e2]
    rw [run_callFunc_extern Tryd.func112 (by kernel_rfl) (by kernel_rfl) (by kernel_rfl) (e := sub64Entry) (by kernel_rfl), run_sub64 x y b (by omega)]
    rfl
  · rw [if_neg c] at h
    cases h

end Go.Proofs.YtpdmiookdmncpaaDoor.X
