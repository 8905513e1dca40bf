/- Walks: each '.calls' says that the Go function comes to what its Lean function tells. Conditions: as each theorem's head says. -/
import Derived.Test.YtfhokgkpcphmlaaGreatDoorXD
import Derived.Test.YtfhokgkpcphmlaaGreatDoorX0
import Derived.Test.YtfhokgkpcphmlaaGreatDoorX6
namespace Go.Proofs.YtfhokgkpcphmlaaGreatDoor.X
open Go.RowKit Go.Proofs.YtfhokgkpcphmlaaGreatDoorW.PrintWords Go.Proofs.YtfhokgkpcphmlaaGreatDoorW.PrintLast Go.Proofs.YtfhokgkpcphmlaaGreatDoorW.PrintMore
attribute [local go_sem] max2_int min2_int max_two min_two max_three min_three max_four min_four   -- for this text's walks alone
set_option linter.unusedVariables false
set_option maxHeartbeats 8000000
set_option maxRecDepth 100000
set_option linter.unusedSimpArgs false

/-! ### demand_number: function 18 -/
theorem demand_number.calls (a0 : Int) (r1 : Int) (r2 : Int) (w : World) (h : demand_number.f a0 = some (r1, r2)) :
  Calls Tryz.prog 18 #[.int .i64 a0] w fun e w' => e = .returned (.agg #[.int .i64 r1, .int .i64 r2]) ∧ Below w.heap.size w w' := by
 have hu23 := Tryz.underlying23
 have HB := Aside0.mk (Below.refl w.heap.size w)
 have H : (some (a0, 1)) = some (r1, r2) := h
 clear h
 simp only [Option.some.injEq, Prod.mk.injEq] at H
 obtain ⟨rfl, rfl⟩ := H
 go_enter Tryz.func18, Tryz.ntmps18
 go_wp2_with (first | ((with_reducible refine gd 2 rfl ?_); refine bx_ 2 23 #[.int .i64 0, .int .i64 0] rfl rfl ?_; intro gb235 hg w2 BK235 hb; have GE235 := bz HB hg; replace HB := bs HB hb; clear hb hg; have hcz3 := X.k2 BK235))
 refine bodyPost_ret (results_cell_row rfl _ _ gb235 23 #[.int .i64 a0, .int .i64 1] (0, 0) _ rfl (br_ BK235) Tryz.underlying23 rfl (by kernel_rfl)) rfl ?_
 exact ⟨ae, bf HB⟩

/-! ### whole_signed: function 52 -/
theorem whole_signed.calls (k : Nat) (a0 : Int) (a1 : Int) (r1 : Int) (r2 : Int) (w : World) (h : whole_signed.f k a0 a1 = some (r1, r2)) :
  Calls Tryz.prog 52 #[.int .u64 a0, .int .i64 a1] w fun e w' => e = .returned (.tuple #[.int .i64 r1, .int .i64 r2]) ∧ Drawn0 w w' := by
 have H : (if a1 < 0 then (whole_signed.j0 k a0 (decide (a0 ≤ 9223372036854775808))) else (whole_signed.j0 k a0 false)) = some (r1, r2) := h
 clear h
 have HC3 := Aside0.mk H
 clear H
 go_enter Tryz.func52, Tryz.ntmps52
 go_upto_region 1 with (fail)
 go_cut [6] (fun v6 wc => ∃ (kq : Nat) (x6_2 : Bool), v6 = .bool x6_2 ∧ Aside0 (whole_signed.j0 kq a0 x6_2 = some (r1, r2)) ∧ Aside0 (kq ≤ k) ∧ Drawn0 w wc)
 case first =>
  have H := HC3.out
  clear HC3
  by_cases c4 : a1 < 0
  ·rw [if_pos c4] at H
   have c4b0 : decide (a1 < 0) = true := decide_eq_true c4
   clear c4
   (first | rw [c4b0] | (simp only [i64_w, i32_w]; rw [c4b0]) | skip)
   have H' := Aside0.mk H
   clear H
   go_wp2
   go_meet
   case rel => exact ⟨_, (decide (a0 ≤ 9223372036854775808)), (aq), H', ⟨by first | omega | exact Nat.le_refl _⟩, dr⟩
  ·rw [if_neg c4] at H
   have c4b0 : decide (a1 < 0) = false := decide_eq_false c4
   clear c4
   (first | rw [c4b0] | (simp only [i64_w, i32_w]; rw [c4b0]) | skip)
   have H' := Aside0.mk H
   clear H
   go_wp2
   go_meet
   case rel => exact ⟨_, (false), (aq), H', ⟨by first | omega | exact Nat.le_refl _⟩, dr⟩
 case rest =>
  clear HC3
  (try clear p2); (try clear c4); (try clear c4b0)
  obtain ⟨kq, x6_2, rfl, HA, HJ2, ⟨mc2, rfl⟩⟩ := hcut
  cases kq with
  | zero => exact absurd HA.out (by simp [whole_signed.j0])
  | succ kj2 =>
   have H := HA.out
   clear HA
   simp only [whole_signed.j0] at H
   by_cases c5 : x6_2 = true
   ·subst c5
    have H1 : (some (wrap64 (IntKind.u64.wrap (-a0)), 0)) = some (r1, r2) := by rw [if_pos rfl] at H; exact H
    clear H
    have H := H1
    clear H1
    simp only [Option.some.injEq, Prod.mk.injEq] at H
    obtain ⟨rfl, rfl⟩ := H
    go_wp2
    go_ret2
    exact ⟨aq, dr⟩
   ·replace c5 := Bool.eq_false_iff.mpr c5
    subst c5
    have H1 : (if a0 ≤ 9223372036854775807 then (some (wrap64 (a0), 0)) else (some (0, 2))) = some (r1, r2) := by rw [if_neg (show ¬ (false = true) by decide)] at H; exact H
    clear H
    have H := H1
    clear H1
    by_cases c6 : a0 ≤ 9223372036854775807
    ·rw [if_pos c6] at H
     have c6b0 : decide (a0 ≤ 9223372036854775807) = true := decide_eq_true c6
     clear c6
     simp only [Option.some.injEq, Prod.mk.injEq] at H
     obtain ⟨rfl, rfl⟩ := H
     go_wp2
     go_ret2
     exact ⟨aq, dr⟩
    ·rw [if_neg c6] at H
     have c6b0 : decide (a0 ≤ 9223372036854775807) = false := decide_eq_false c6
     clear c6
     simp only [Option.some.injEq, Prod.mk.injEq] at H
     obtain ⟨rfl, rfl⟩ := H
     go_wp2
     go_ret2
     exact ⟨aq, dr⟩

/-! ### whole_gcd: function 75 -/
theorem whole_gcd.calls (k : Nat) (a0 : Int) (a1 : Int) (r : Int) (w : World) (h : whole_gcd.f k a0 a1 = some r) (hT : TabOK w) :
  Calls Tryz.prog 75 #[.int .u64 a0, .int .u64 a1] w fun e w' => e = .returned (.int .u64 r) ∧ Drawn0 w w' := by
 have GT := Aside0.mk hT
 clear hT
 have H : (if a0 = 0 then (whole_gcd.j0 k a0 a1 true) else (whole_gcd.j0 k a0 a1 (a1 == 0))) = some r := h
 clear h
 have HC3 := Aside0.mk H
 clear H
 go_enter Tryz.func75, Tryz.ntmps75
 go_upto_region 1 with (fail)
 go_cut [11] (fun v11 wc => ∃ (kq : Nat) (x11_2 : Bool), v11 = .bool x11_2 ∧ Aside0 (whole_gcd.j0 kq a0 a1 x11_2 = some r) ∧ Aside0 (kq ≤ k) ∧ Drawn0 w wc)
 case first =>
  have H := HC3.out
  clear HC3
  by_cases c4 : a0 = 0
  ·rw [if_pos c4] at H
   have c4b0 : (a0 == 0) = true := beq_iff_eq.mpr c4
   have c4b1 : (a0 != 0) = false := bne_eq_false_iff_eq.mpr c4
   clear c4
   (first | rw [c4b0] | (simp only [i64_w, i32_w]; rw [c4b0]) | skip)
   have H' := Aside0.mk H
   clear H
   go_wp2
   go_meet
   case rel => exact ⟨_, (true), (aq), H', ⟨by first | omega | exact Nat.le_refl _⟩, dr⟩
  ·rw [if_neg c4] at H
   have c4b0 : (a0 == 0) = false := beq_eq_false_iff_ne.mpr c4
   have c4b1 : (a0 != 0) = true := bne_iff_ne.mpr c4
   (first | rw [c4b0] | (simp only [i64_w, i32_w]; rw [c4b0]) | skip)
   have H' := Aside0.mk H
   clear H
   go_wp2
   go_meet
   case rel => exact ⟨_, ((a1 == 0)), (aq), H', ⟨by first | omega | exact Nat.le_refl _⟩, dr⟩
 case rest =>
  clear HC3
  (try clear p2); (try clear c4); (try clear c4b0); (try clear c4b1)
  obtain ⟨kq, x11_2, rfl, HA, HJ2, ⟨mc2, rfl⟩⟩ := hcut
  cases kq with
  | zero => exact absurd HA.out (by simp [whole_gcd.j0])
  | succ kj2 =>
   have H := HA.out
   clear HA
   simp only [whole_gcd.j0] at H
   by_cases c5 : x11_2 = true
   ·subst c5
    have H1 : (some (Go.bits .or .u64 a0 a1)) = some r := by rw [if_pos rfl] at H; exact H
    clear H
    have H := H1
    clear H1
    obtain rfl := Option.some.inj H
    go_wp2
    go_ret
    exact ⟨aq, dr⟩
   ·replace c5 := Bool.eq_false_iff.mpr c5
    subst c5
    have H1 : ((bits_TrailingZeros64.f (Go.bits .or .u64 a0 a1)).bind fun t236 => ((bits_TrailingZeros64.f a0).bind fun t237 => (if 0 ≤ t237 then (whole_gcd.l0 kj2 (shr .u64 a0 t237) a1 t236) else (none)))) = some r := by rw [if_neg (show ¬ (false = true) by decide)] at H; exact H
    clear H
    have H := H1
    clear H1
    replace H := bi_ H; obtain ⟨t236, A6, H⟩ := H
    (try dsimp only at H)
    replace H := bi_ H; obtain ⟨t237, A7, H⟩ := H
    (try dsimp only at H)
    by_cases c8 : 0 ≤ t237
    ·rw [if_pos c8] at H
     have c8b0 := eq_true c8
     have c8b1 : decide (0 ≤ t237) = true := decide_eq_true c8
     clear c8
     obtain ⟨ji9, hji9⟩ : ∃ j_ : Int, (shr .u64 a0 t237) = j_ := ⟨_, rfl⟩
     replace H : (whole_gcd.l0 kj2 ji9 a1 t236) = some r := by first | (rw [hji9] at H; exact H) | (simp only [hji9] at H ⊢; exact H)
     (try rw [hji9] at A6)
     (try rw [hji9] at A7)
     have hji9_ : (a0 / 2 ^ min t237.toNat 64) = ji9 := hji9
     have hji9z : t237 ≤ 64 → (a0 / 2 ^ t237.toNat) = ji9 := shr_small hji9
     have H' := Aside0.mk H
     clear H
     go_wp2_with (first | ((with_reducible refine gc 96 rfl ?_); refine gm_ (some 18) rfl rfl Tryz.func96 (bits_TrailingZeros64.calls (Go.bits .or .u64 a0 a1) _ _ A6.out (tt GT)) ag ?_; rintro w' ⟨nd, rfl⟩) | ((with_reducible refine gc 96 rfl ?_); refine gm_ (some 21) rfl rfl Tryz.func96 (bits_TrailingZeros64.calls _ _ _ A7.out (tt GT)) ag ?_; rintro w' ⟨nd, rfl⟩))
     go_loopg [0, 1] kj2 (fun kq v0 v1 w' => ∃ (x0_2 : Int) (x1_2 : Int), v0 = .int .u64 x0_2 ∧ v1 = .int .u64 x1_2 ∧ Aside0 (whole_gcd.l0 kq x0_2 x1_2 t236 = some r) ∧ Aside0 (kq ≤ kj2) ∧ Drawn0 w w')
     case atStart => exact ⟨(ji9), (a1), (by first | rfl | (simp; done) | (simp only [← hji9] <;> (first | rfl | simp)) | (simp [*]; done)), (aq), H', ⟨Nat.le_refl _⟩, dr⟩
     case round =>
      clear H'
      (try clear c2); (try clear p2); (try clear c4); (try clear c4b0); (try clear c4b1); (try clear c5); (try clear c7); (try clear c8); (try clear c8b0); (try clear c8b1); (try clear c9); (try clear p2)
      obtain ⟨x0_2, x1_2, rfl, rfl, HA, HK2, ⟨m2, rfl⟩⟩ := hrel
      cases gk with
      | zero => exact absurd HA.out (by simp [whole_gcd.l0])
      | succ k2 =>
       have H := HA.out
       clear HA
       simp only [whole_gcd.l0] at H
       by_cases c10 : x1_2 = 0
       ·rw [if_pos c10] at H
        have c10b0 : (x1_2 == 0) = true := beq_iff_eq.mpr c10
        have c10b1 : (x1_2 != 0) = false := bne_eq_false_iff_eq.mpr c10
        clear c10
        by_cases c11 : 0 ≤ t236
        ·rw [if_pos c11] at H
         have c11b0 := eq_true c11
         have c11b1 : decide (0 ≤ t236) = true := decide_eq_true c11
         clear c11
         obtain ⟨ji12, hji12⟩ : ∃ j_ : Int, (shl .u64 x0_2 t236) = j_ := ⟨_, rfl⟩
         replace H : (some ji12) = some r := by first | (rw [hji12] at H; exact H) | (simp only [hji12] at H ⊢; exact H)
         have hji12_ : (IntKind.u64.wrap (x0_2 * 2 ^ min t236.toNat 64)) = ji12 := hji12
         have hji12z : t236 ≤ 64 → (IntKind.u64.wrap (x0_2 * 2 ^ t236.toNat)) = ji12 := shl_small hji12
         obtain rfl := Option.some.inj H
         go_wp2
         go_ret
         exact ⟨by first | rfl | (simp; done) | (simp only [← hji9, ← hji12] <;> (first | rfl | simp)) | (simp [*]; done), dr⟩
        ·rw [if_neg c11] at H
         exact absurd H (by simp)
       ·rw [if_neg c10] at H
        have c10b0 : (x1_2 == 0) = false := beq_eq_false_iff_ne.mpr c10
        have c10b1 : (x1_2 != 0) = true := bne_iff_ne.mpr c10
        replace H := bi_ H; obtain ⟨t238, A13, H⟩ := H
        (try dsimp only at H)
        by_cases c14 : 0 ≤ t238
        ·rw [if_pos c14] at H
         have c14b0 := eq_true c14
         have c14b1 : decide (0 ≤ t238) = true := decide_eq_true c14
         clear c14
         obtain ⟨ji15, hji15⟩ : ∃ j_ : Int, (shr .u64 x1_2 t238) = j_ := ⟨_, rfl⟩
         replace H : (if x0_2 > (ji15) then (whole_gcd.l0 k2 ji15 (IntKind.u64.wrap (x0_2 - (ji15))) t236) else (whole_gcd.l0 k2 x0_2 (IntKind.u64.wrap ((ji15) - x0_2)) t236)) = some r := by first | (rw [hji15] at H; exact H) | (simp only [hji15] at H ⊢; exact H)
         (try rw [hji15] at A13)
         have hji15_ : (x1_2 / 2 ^ min t238.toNat 64) = ji15 := hji15
         have hji15z : t238 ≤ 64 → (x1_2 / 2 ^ t238.toNat) = ji15 := shr_small hji15
         by_cases c16 : x0_2 > (ji15)
         ·rw [if_pos c16] at H
          have c16b0 : decide ((ji15) < x0_2) = true := decide_eq_true c16
          clear c16
          have H' := Aside0.mk H
          clear H
          go_wp2_with (first | ((with_reducible refine gc 96 rfl ?_); refine gm_ (some 27) rfl rfl Tryz.func96 (bits_TrailingZeros64.calls _ _ _ A13.out (tt GT)) ag ?_; rintro w' ⟨nd, rfl⟩))
          go_roundg k2
          case measure => have := HJ2.out; have := HK2.out; omega
          case rel => exact ⟨(ji15), (IntKind.u64.wrap (x0_2 - (ji15))), (by first | rfl | (simp; done) | (simp only [← hji15] <;> (first | rfl | simp)) | (simp [*]; done)), (by first | rfl | (simp; done) | (simp only [← hji15] <;> (first | rfl | simp)) | (simp [*]; done)), H', ⟨by have := HJ2.out; have := HK2.out; omega⟩, dr⟩
         ·rw [if_neg c16] at H
          have c16b0 : decide ((ji15) < x0_2) = false := decide_eq_false c16
          clear c16
          have H' := Aside0.mk H
          clear H
          go_wp2_with (first | ((with_reducible refine gc 96 rfl ?_); refine gm_ (some 27) rfl rfl Tryz.func96 (bits_TrailingZeros64.calls _ _ _ A13.out (tt GT)) ag ?_; rintro w' ⟨nd, rfl⟩))
          go_roundg k2
          case measure => have := HJ2.out; have := HK2.out; omega
          case rel => exact ⟨(x0_2), (IntKind.u64.wrap ((ji15) - x0_2)), (aq), (by first | rfl | (simp; done) | (simp only [← hji15] <;> (first | rfl | simp)) | (simp [*]; done)), H', ⟨by have := HJ2.out; have := HK2.out; omega⟩, dr⟩
        ·rw [if_neg c14] at H
         exact absurd H (by simp)
    ·rw [if_neg c8] at H
     exact absurd H (by simp)

/-! ### whole_size: function 76 -/
theorem whole_size.calls (a0 : Int) (r : Int) (w : World) (h : whole_size.f a0 = some r) :
  Calls Tryz.prog 76 #[.int .i64 a0] w fun e w' => e = .returned (.int .u64 r) ∧ Drawn0 w w' := by
 have H : (if a0 < 0 then (some (IntKind.u64.wrap (-(IntKind.u64.wrap (a0))))) else (some (IntKind.u64.wrap (a0)))) = some r := h
 clear h
 by_cases c2 : a0 < 0
 ·rw [if_pos c2] at H
  have c2b0 : decide (a0 < 0) = true := decide_eq_true c2
  clear c2
  obtain rfl := Option.some.inj H
  go_enter Tryz.func76, Tryz.ntmps76
  go_wp2
  go_ret
  exact ⟨aq, dr⟩
 ·rw [if_neg c2] at H
  have c2b0 : decide (a0 < 0) = false := decide_eq_false c2
  clear c2
  obtain rfl := Option.some.inj H
  go_enter Tryz.func76, Tryz.ntmps76
  go_wp2
  go_ret
  exact ⟨aq, dr⟩

/-! ### whole_Gcd: function 47 -/
theorem whole_Gcd.calls (k : Nat) (a0 : Int) (a1 : Int) (r1 : Int) (r2 : Int) (w : World) (h : whole_Gcd.f k a0 a1 = some (r1, r2)) (hT : TabOK w) :
  Calls Tryz.prog 47 #[.int .i64 a0, .int .i64 a1] w fun e w' => e = .returned (.tuple #[.int .i64 r1, .int .i64 r2]) ∧ Drawn0 w w' := by
 have GT := Aside0.mk hT
 clear hT
 have H : ((whole_size.f a0).bind fun t239 => ((whole_size.f a1).bind fun t240 => ((whole_gcd.f k t239 t240).bind fun t241 => ((whole_signed.f k t241 1).bind fun bt242 => (some (bt242.1, bt242.2)))))) = some (r1, r2) := h
 clear h
 replace H := bi_ H; obtain ⟨t239, A3, H⟩ := H
 (try dsimp only at H)
 replace H := bi_ H; obtain ⟨t240, A4, H⟩ := H
 (try dsimp only at H)
 replace H := bi_ H; obtain ⟨t241, A5, H⟩ := H
 (try dsimp only at H)
 replace H := bi_ H; obtain ⟨⟨t242, t243⟩, A6, H⟩ := H
 (try dsimp only at H)
 simp only [Option.some.injEq, Prod.mk.injEq] at H
 obtain ⟨rfl, rfl⟩ := H
 go_enter Tryz.func47, Tryz.ntmps47
 go_wp2_with (first | ((with_reducible refine gc 76 rfl ?_); refine gm_ (some 7) rfl rfl Tryz.func76 (whole_size.calls _ _ _ A3.out) ag ?_; rintro w' ⟨nd, rfl⟩) | ((with_reducible refine gc 76 rfl ?_); refine gm_ (some 9) rfl rfl Tryz.func76 (whole_size.calls _ _ _ A4.out) ag ?_; rintro w' ⟨nd, rfl⟩) | ((with_reducible refine gc 75 rfl ?_); refine gm_ (some 10) rfl rfl Tryz.func75 (whole_gcd.calls _ _ _ _ _ A5.out (tt GT)) ag ?_; rintro w' ⟨nd, rfl⟩) | ((with_reducible refine gc 52 rfl ?_); refine gm_ (some 11) rfl rfl Tryz.func52 (whole_signed.calls _ _ _ _ _ _ A6.out) ag ?_; rintro w' ⟨nd, rfl⟩))
 go_ret2
 exact ⟨aq, dr⟩

/-! ### frac_Right: function 21 -/
theorem frac_Right.calls (k : Nat) (a0_0 : Int) (a0_1 : Int) (r : Bool) (w : World) (h : frac_Right.f k a0_0 a0_1 = some r) (hT : TabOK w) :
  Calls Tryz.prog 21 #[.agg #[.int .i64 a0_0, .int .i64 a0_1]] w fun e w' => e = .returned (.bool r) ∧ Below w.heap.size w w' := by
 have GT := Aside0.mk hT
 clear hT
 have hu23 := Tryz.underlying23
 have HB := Aside0.mk (Below.refl w.heap.size w)
 have H : ((whole_Gcd.f k a0_0 a0_1).bind fun bt245 => (if a0_1 ≥ 1 then (if bt245.2 = 0 then (some (bt245.1 == 1)) else (some false)) else (some false))) = some r := h
 clear h
 replace H := bi_ H; obtain ⟨⟨t245, t246⟩, A2, H⟩ := H
 (try dsimp only at H)
 by_cases c3 : a0_1 ≥ 1
 ·rw [if_pos c3] at H
  have c3b0 : decide (1 ≤ a0_1) = true := decide_eq_true c3
  clear c3
  by_cases c4 : t246 = 0
  ·rw [if_pos c4] at H
   have c4b0 : (t246 == 0) = true := beq_iff_eq.mpr c4
   have c4b1 : (t246 != 0) = false := bne_eq_false_iff_eq.mpr c4
   clear c4
   obtain rfl := Option.some.inj H
   go_enter Tryz.func21, Tryz.ntmps21
   go_wp2_with (first | ((with_reducible refine gd 1 rfl ?_); refine bx_ 1 23 #[.int .i64 a0_0, .int .i64 a0_1] rfl rfl ?_; intro gb244 hg w5 BK244 hb; have GE244 := bz HB hg; replace HB := bs HB hb; clear hb hg; have hcz6 := X.k2 BK244) | ((with_reducible refine gc 47 rfl ?_); refine gm_ (some 10) rfl rfl Tryz.func47 (whole_Gcd.calls _ _ _ _ _ _ A2.out (tt GT)) ag ?_; rintro w' ⟨nd, rfl⟩))
   go_ret
   exact ⟨ae, bf HB⟩
  ·rw [if_neg c4] at H
   have c4b0 : (t246 == 0) = false := beq_eq_false_iff_ne.mpr c4
   have c4b1 : (t246 != 0) = true := bne_iff_ne.mpr c4
   obtain rfl := Option.some.inj H
   go_enter Tryz.func21, Tryz.ntmps21
   go_wp2_with (first | ((with_reducible refine gd 1 rfl ?_); refine bx_ 1 23 #[.int .i64 a0_0, .int .i64 a0_1] rfl rfl ?_; intro gb244 hg w7 BK244 hb; have GE244 := bz HB hg; replace HB := bs HB hb; clear hb hg; have hcz8 := X.k2 BK244) | ((with_reducible refine gc 47 rfl ?_); refine gm_ (some 10) rfl rfl Tryz.func47 (whole_Gcd.calls _ _ _ _ _ _ A2.out (tt GT)) ag ?_; rintro w' ⟨nd, rfl⟩))
   go_ret
   exact ⟨ae, bf HB⟩
 ·rw [if_neg c3] at H
  have c3b0 : decide (1 ≤ a0_1) = false := decide_eq_false c3
  clear c3
  obtain rfl := Option.some.inj H
  go_enter Tryz.func21, Tryz.ntmps21
  go_wp2_with (first | ((with_reducible refine gd 1 rfl ?_); refine bx_ 1 23 #[.int .i64 a0_0, .int .i64 a0_1] rfl rfl ?_; intro gb244 hg w9 BK244 hb; have GE244 := bz HB hg; replace HB := bs HB hb; clear hb hg; have hcz10 := X.k2 BK244) | ((with_reducible refine gc 47 rfl ?_); refine gm_ (some 10) rfl rfl Tryz.func47 (whole_Gcd.calls _ _ _ _ _ _ A2.out (tt GT)) ag ?_; rintro w' ⟨nd, rfl⟩))
  go_ret
  exact ⟨ae, bf HB⟩

/-! ### frac_nought: function 62 -/
theorem frac_nought.calls  (r1 : Int) (r2 : Int) (w : World) (h : frac_nought.f  = some (r1, r2)) :
  Calls Tryz.prog 62 #[] w fun e w' => e = .returned (.agg #[.int .i64 r1, .int .i64 r2]) ∧ Below w.heap.size w w' := by
 have hu23 := Tryz.underlying23
 have HB := Aside0.mk (Below.refl w.heap.size w)
 have H : (some (0, 1)) = some (r1, r2) := h
 clear h
 simp only [Option.some.injEq, Prod.mk.injEq] at H
 obtain ⟨rfl, rfl⟩ := H
 go_enter Tryz.func62, Tryz.ntmps62
 go_wp2_with (first | ((with_reducible refine gd 0 rfl ?_); refine bx_ 0 23 #[.int .i64 0, .int .i64 0] rfl rfl ?_; intro gb247 hg w1 BK247 hb; have GE247 := bz HB hg; replace HB := bs HB hb; clear hb hg; have hcz2 := X.k2 BK247))
 refine bodyPost_ret (results_cell_row rfl _ _ gb247 23 #[.int .i64 0, .int .i64 1] (0, 0) _ rfl (br_ BK247) Tryz.underlying23 rfl (by kernel_rfl)) rfl ?_
 exact ⟨ae, bf HB⟩

/-! ### frac_norm: function 35 -/
theorem frac_norm.calls (k : Nat) (a0_0 : Int) (a0_1 : Int) (r1 : Int) (r2 : Int) (w : World) (h : frac_norm.f k a0_0 a0_1 = some (r1, r2)) (hT : TabOK w) :
  Calls Tryz.prog 35 #[.agg #[.int .i64 a0_0, .int .i64 a0_1]] w fun e w' => e = .returned (.agg #[.int .i64 r1, .int .i64 r2]) ∧ Below w.heap.size w w' := by
 have GT := Aside0.mk hT
 clear hT
 have hu23 := Tryz.underlying23
 have HB := Aside0.mk (Below.refl w.heap.size w)
 have H : ((frac_Right.f k a0_0 a0_1).bind fun t250 => (if t250 = true then (some (a0_0, a0_1)) else ((frac_nought.f).bind fun bt251 => (some (bt251.1, bt251.2))))) = some (r1, r2) := h
 clear h
 replace H := bi_ H; obtain ⟨t250, A2, H⟩ := H
 (try dsimp only at H)
 by_cases c3 : t250 = true
 ·subst c3
  have H1 : (some (a0_0, a0_1)) = some (r1, r2) := by rw [if_pos rfl] at H; exact H
  clear H
  have H := H1
  clear H1
  simp only [Option.some.injEq, Prod.mk.injEq] at H
  obtain ⟨rfl, rfl⟩ := H
  go_enter Tryz.func35, Tryz.ntmps35
  go_wp2_with (first | ((with_reducible refine gd 1 rfl ?_); refine bx_ 1 23 #[.int .i64 a0_0, .int .i64 a0_1] rfl rfl ?_; intro gb248 hg w4 BK248 hb; have GE248 := bz HB hg; replace HB := bs HB hb; clear hb hg) | ((with_reducible refine gd 2 rfl ?_); refine bx_ 2 23 #[.int .i64 0, .int .i64 0] rfl rfl ?_; intro gb249 hg w5 BK249 hb; have GE249 := bz HB hg; have ⟨NB248_249, NB249_248⟩ := nb BK248 hg; replace BK248 := bb BK248 hb; replace HB := bs HB hb; clear hb hg; have hnb6 := nn NB248_249; have hcz7 := X.k2 BK248) | ((with_reducible refine gc 21 rfl ?_); refine gm_ (some 4) rfl rfl Tryz.func21 (frac_Right.calls _ _ _ _ _ A2.out (tt GT)) ag ?_; intro w8 hb; replace BK248 := bb BK248 hb; replace BK249 := bb BK249 hb; replace HB := bs HB hb; (try clear hb); have hcz9 := X.k2 BK248; have hcz10 := X.k2 BK249))
  refine bodyPost_ret (results_cell_row rfl _ _ gb249 23 #[.int .i64 a0_0, .int .i64 a0_1] (0, 0) _ rfl (br_ BK249) Tryz.underlying23 rfl (by kernel_rfl)) rfl ?_
  exact ⟨ae, bf HB⟩
 ·replace c3 := Bool.eq_false_iff.mpr c3
  subst c3
  have H1 : ((frac_nought.f).bind fun bt251 => (some (bt251.1, bt251.2))) = some (r1, r2) := by rw [if_neg (show ¬ (false = true) by decide)] at H; exact H
  clear H
  have H := H1
  clear H1
  replace H := bi_ H; obtain ⟨⟨t251, t252⟩, A11, H⟩ := H
  (try dsimp only at H)
  simp only [Option.some.injEq, Prod.mk.injEq] at H
  obtain ⟨rfl, rfl⟩ := H
  go_enter Tryz.func35, Tryz.ntmps35
  go_wp2_with (first | ((with_reducible refine gd 1 rfl ?_); refine bx_ 1 23 #[.int .i64 a0_0, .int .i64 a0_1] rfl rfl ?_; intro gb248 hg w12 BK248 hb; have GE248 := bz HB hg; replace HB := bs HB hb; clear hb hg) | ((with_reducible refine gd 2 rfl ?_); refine bx_ 2 23 #[.int .i64 0, .int .i64 0] rfl rfl ?_; intro gb249 hg w13 BK249 hb; have GE249 := bz HB hg; have ⟨NB248_249, NB249_248⟩ := nb BK248 hg; replace BK248 := bb BK248 hb; replace HB := bs HB hb; clear hb hg; have hnb14 := nn NB248_249; have hcz15 := X.k2 BK248) | ((with_reducible refine gc 21 rfl ?_); refine gm_ (some 4) rfl rfl Tryz.func21 (frac_Right.calls _ _ _ _ _ A2.out (tt GT)) ag ?_; intro w16 hb; replace BK249 := bb BK249 hb; replace HB := bs HB hb; (try clear hb)) | ((with_reducible refine gc 62 rfl ?_); refine gm_ (some 6) rfl rfl Tryz.func62 (frac_nought.calls _ _ _ A11.out) ag ?_; intro w17 hb; replace BK249 := bb BK249 hb; replace HB := bs HB hb; (try clear hb); have hcz18 := X.k2 BK249))
  refine bodyPost_ret (results_cell_row rfl _ _ gb249 23 #[.int .i64 t251, .int .i64 t252] (0, 0) _ rfl (br_ BK249) Tryz.underlying23 rfl (by kernel_rfl)) rfl ?_
  exact ⟨ae, bf HB⟩

/-! ### bits_Mul64: function 53 -/
theorem bits_Mul64.calls (a0 : Int) (a1 : Int) (r1 : Int) (r2 : Int) (w : World) (h : bits_Mul64.f a0 a1 = some (r1, r2)) :
  Calls Tryz.prog 53 #[.int .u64 a0, .int .u64 a1] w fun e w' => e = .returned (.tuple #[.int .u64 r1, .int .u64 r2]) ∧ Drawn0 w w' := by
 have H : (some (IntKind.u64.wrap ((IntKind.u64.wrap ((IntKind.u64.wrap ((a0 / 4294967296) * (a1 / 4294967296))) + ((IntKind.u64.wrap ((IntKind.u64.wrap ((a0 / 4294967296) * (Go.bits .and .u64 a1 4294967295))) + ((IntKind.u64.wrap ((Go.bits .and .u64 a0 4294967295) * (Go.bits .and .u64 a1 4294967295))) / 4294967296))) / 4294967296))) + ((IntKind.u64.wrap ((Go.bits .and .u64 (IntKind.u64.wrap ((IntKind.u64.wrap ((a0 / 4294967296) * (Go.bits .and .u64 a1 4294967295))) + ((IntKind.u64.wrap ((Go.bits .and .u64 a0 4294967295) * (Go.bits .and .u64 a1 4294967295))) / 4294967296))) 4294967295) + (IntKind.u64.wrap ((Go.bits .and .u64 a0 4294967295) * (a1 / 4294967296))))) / 4294967296)), IntKind.u64.wrap (a0 * a1))) = some (r1, r2) := h
 clear h
 simp only [Option.some.injEq, Prod.mk.injEq] at H
 obtain ⟨rfl, rfl⟩ := H
 go_enter Tryz.func53, Tryz.ntmps53
 go_wp2
 go_ret2
 exact ⟨aq, dr⟩

/-! ### frac_multiply: function 66 -/
theorem frac_multiply.calls (a0 : Int) (a1 : Int) (r1 : Int) (r2 : Int) (w : World) (h : frac_multiply.f a0 a1 = some (r1, r2)) :
  Calls Tryz.prog 66 #[.int .u64 a0, .int .u64 a1] w fun e w' => e = .returned (.agg #[.int .u64 r1, .int .u64 r2]) ∧ Below w.heap.size w w' := by
 have hu88 := Tryz.underlying88
 have HB := Aside0.mk (Below.refl w.heap.size w)
 have H : ((bits_Mul64.f a0 a1).bind fun bt254 => (some (bt254.1, bt254.2))) = some (r1, r2) := h
 clear h
 replace H := bi_ H; obtain ⟨⟨t254, t255⟩, A3, H⟩ := H
 (try dsimp only at H)
 simp only [Option.some.injEq, Prod.mk.injEq] at H
 obtain ⟨rfl, rfl⟩ := H
 go_enter Tryz.func66, Tryz.ntmps66
 go_wp2_with (first | ((with_reducible refine gd 4 rfl ?_); refine bx_ 4 88 #[.int .u64 0, .int .u64 0] rfl rfl ?_; intro gb253 hg w4 BK253 hb; have GE253 := bz HB hg; replace HB := bs HB hb; clear hb hg) | ((with_reducible refine gc 53 rfl ?_); refine gm_ (some 10) rfl rfl Tryz.func53 (bits_Mul64.calls _ _ _ _ _ A3.out) ag ?_; rintro w' ⟨nd, rfl⟩; (try (rw [drewN_self w4]; generalize hq_ : World.drewN w4 _ = w4; have n0_ : Aside0 (w4.heap[gb253]? = some (.cells #[.int .u64 0, .int .u64 0] 88 (0, 0))) := ⟨by rw [← hq_]; exact (bx BK253)⟩; have n1_ : Aside0 (Below w.heap.size w w4) := ⟨by rw [← hq_]; exact (bf HB)⟩; clear BK253 HB hq_; have BK253 := n0_; have HB := n1_; clear n0_ n1_)); have hcz5 := X.k2 BK253))
 refine bodyPost_ret (results_cell_row rfl _ _ gb253 88 #[.int .u64 t254, .int .u64 t255] (0, 0) _ rfl (br_ BK253) Tryz.underlying88 rfl (by kernel_rfl)) rfl ?_
 exact ⟨ae, bf HB⟩

/-! ### frac_signed_times: function 38 -/
def frac_signed_times.T1 : Bool × List (List Nat × List Nat) := (true, [([], []), ([0], [0]), ([], []), ([2], [2]), ([1, 3], [1, 3]), ([], []), ([5], [5]), ([6], [6]), ([], []), ([8], [8]), ([9], [9]), ([7, 10], [7, 10]), ([4, 11], [4, 11]), ([12, 11, 0, 1, 2, 3, 4, 5, 6, 7, 8, 9, 10, 11, 12], [12])])
def frac_signed_times.B1 : List Nat := [0, 1, 0, 4, 15, 0, 32, 96, 0, 256, 768, 2016, 4095, 8191]
theorem frac_signed_times.tab1 : rtab .any (opsOf Tryz.f38 1) = frac_signed_times.T1 := by kernel_rfl
theorem frac_signed_times.bits1 : waitsOk frac_signed_times.T1.2 frac_signed_times.B1 = true := by kernel_rfl
theorem frac_signed_times.calls (a0_0 : Bool) (a0_1 : Int) (a0_2 : Int) (a1_0 : Bool) (a1_1 : Int) (a1_2 : Int) (r1 : Bool) (r2 : Int) (r3 : Int) (w : World) (h : frac_signed_times.f a0_0 a0_1 a0_2 a1_0 a1_1 a1_2 = some (r1, r2, r3)) :
  Calls Tryz.prog 38 #[.agg #[.bool a0_0, .int .u64 a0_1, .int .u64 a0_2], .agg #[.bool a1_0, .int .u64 a1_1, .int .u64 a1_2]] w fun e w' => e = .returned (.agg #[.bool r1, .int .u64 r2, .int .u64 r3]) ∧ Below w.heap.size w w' := by
 have hu90 := Tryz.underlying90
 have HB := Aside0.mk (Below.refl w.heap.size w)
 have H : ((frac_multiply.f a0_2 a1_2).bind fun bt259 => (some ((a0_0 != a1_0), bt259.1, bt259.2))) = some (r1, r2, r3) := h
 clear h
 replace H := bi_ H; obtain ⟨⟨t259, t260⟩, A3, H⟩ := H
 (try dsimp only at H)
 simp only [Option.some.injEq, Prod.mk.injEq] at H
 obtain ⟨rfl, rfl, rfl⟩ := H
 go_enter Tryz.func38, Tryz.ntmps38
 try go_wp2_with (first | ((with_reducible refine gd 2 rfl ?_); refine bx_ 2 90 #[.bool a0_0, .int .u64 a0_1, .int .u64 a0_2] rfl rfl ?_; intro gb256 hg w4 BK256 hb; have GE256 := bz HB hg; replace HB := bs HB hb; clear hb hg) | ((with_reducible refine gd 3 rfl ?_); refine bx_ 3 90 #[.bool a1_0, .int .u64 a1_1, .int .u64 a1_2] rfl rfl ?_; intro gb257 hg w5 BK257 hb; have GE257 := bz HB hg; have ⟨NB256_257, NB257_256⟩ := nb BK256 hg; replace BK256 := bb BK256 hb; replace HB := bs HB hb; clear hb hg) | ((with_reducible refine gd 4 rfl ?_); refine bx_ 4 90 #[.bool false, .int .u64 0, .int .u64 0] rfl rfl ?_; intro gb258 hg w6 BK258 hb; have GE258 := bz HB hg; have ⟨NB256_258, NB258_256⟩ := nb BK256 hg; have ⟨NB257_258, NB258_257⟩ := nb BK257 hg; replace BK256 := bb BK256 hb; replace BK257 := bb BK257 hb; replace HB := bs HB hb; clear hb hg))
 replace BK256 := Aside0.mk (blk_drew BK256.out)
 replace BK257 := Aside0.mk (blk_drew BK257.out)
 replace BK258 := Aside0.mk (blk_drew BK258.out)
 replace HB := Aside0.mk (below_drew1 HB.out)
 refine start_ (n := 14) (S := fun w' => c_ w' gb256 0 (.bool a0_0) ∧ c_ w' gb256 1 (.int .u64 a0_1) ∧ c_ w' gb256 2 (.int .u64 a0_2) ∧ c_ w' gb257 0 (.bool a1_0) ∧ c_ w' gb257 1 (.int .u64 a1_1) ∧ c_ w' gb257 2 (.int .u64 a1_2)) (ds := []) (m_ 14 0) (by kernel_rfl) rfl rfl ⟨ct BK256 0, ct BK256 1, ct BK256 2, ct BK257 0, ct BK257 1, ct BK257 2⟩ (fun hHeld => ?_); refine with_tabW frac_signed_times.tab1 frac_signed_times.bits1 (fun HT_ HW_ => ?_)
 generalize w6.drew = w7 at BK256 BK257 BK258 HB hHeld ⊢
 refine pu_ 0 (some 5) (m_ 14 1) rfl rfl (ao HT_) ?_
 refine pu_ 2 (some 7) (m_ 14 5) rfl rfl (ao HT_) ?_
 refine pu_ 5 (some 10) (m_ 14 37) rfl rfl (ao HT_) ?_
 refine pu_ 6 (some 11) (m_ 14 101) rfl rfl (ao HT_) ?_
 refine pu_ 8 (some 13) (m_ 14 357) rfl rfl (ao HT_) ?_
 refine pu_ 9 (some 14) (m_ 14 869) rfl rfl (ao HT_) ?_
 refine tk_ 1 (some 6) (m_ 14 871) rfl rfl (tw HT_ HW_) hHeld ?_
 refine tk_ 3 (some 8) (m_ 14 879) rfl rfl (tw HT_ HW_) hHeld ?_
 refine pu_ 4 (some 9) (m_ 14 895) rfl rfl (ao HT_) ?_
 refine tk_ 7 (some 12) (m_ 14 1023) rfl rfl (tw HT_ HW_) hHeld ?_
 refine tk_ 10 (some 15) (m_ 14 2047) rfl rfl (tw HT_ HW_) hHeld ?_
 refine o1_ 11 (some 16) (m_ 14 4095) rfl rfl (oo HT_) (fun K hK => ?_)
 refine gs_ rfl Tryz.func66 (frac_multiply.calls _ _ _ _ _ A3.out) ag ?_
 intro w8 hb
 replace BK256 := bb BK256 hb
 replace BK257 := bb BK257 hb
 replace BK258 := bb BK258 hb
 replace HB := bs HB hb
 (try clear hb)
 refine hK.out _ _ ⟨ct BK256 0, ct BK256 1, ct BK256 2, ct BK257 0, ct BK257 1, ct BK257 2⟩ (fun hHeld => ?_)
 clear hK K
 refine nr_ (some 16) ?_
 refine pu_ 12 (some 17) (m_ 14 8191) rfl rfl (ao HT_) ?_
 refine o1_ 13 (none) (m_ 14 16383) rfl rfl (oo HT_) (fun K hK => ?_)
 have hs9 : c_ w8 gb258 0 (.bool false) := ct BK258 0
 have hfs9 := blk_frozen BK258.out 0
 have hns9_0 := NB256_258.out
 have hns9_1 := NB257_258.out
 have hms9_0 := NB258_256.out
 have hms9_1 := NB258_257.out
 have hs10 : c_ w8 gb258 1 (.int .u64 0) := ct BK258 1
 have hfs10 := blk_frozen BK258.out 1
 have hns10_0 := NB256_258.out
 have hns10_1 := NB257_258.out
 have hms10_0 := NB258_256.out
 have hms10_1 := NB258_257.out
 have hs11 : c_ w8 gb258 2 (.int .u64 0) := ct BK258 2
 have hfs11 := blk_frozen BK258.out 2
 have hns11_0 := NB256_258.out
 have hns11_1 := NB257_258.out
 have hms11_0 := NB258_256.out
 have hms11_1 := NB258_257.out
 refine skip_ (w1 := ?_) (by rfl) rfl ?_ ?_
 rotate_left
 ·go_simp
  rfl
 refine hK.out _ _ (by obtain ⟨d0, d1, d2, d3, d4, d5⟩ := hHeld; exact ⟨fa_ NB256_258 (fa_ NB256_258 (fa_ NB256_258 d0)), fa_ NB256_258 (fa_ NB256_258 (fa_ NB256_258 d1)), fa_ NB256_258 (fa_ NB256_258 (fa_ NB256_258 d2)), fa_ NB257_258 (fa_ NB257_258 (fa_ NB257_258 d3)), fa_ NB257_258 (fa_ NB257_258 (fa_ NB257_258 d4)), fa_ NB257_258 (fa_ NB257_258 (fa_ NB257_258 d5))⟩) (fun hHeld => ?_)
 clear hK K
 refine done_ (done_of HT_.out (by kernel_rfl)) ?_
 try go_wp2
 refine bodyPost_ret (results_cell_row rfl _ _ gb258 90 #[.bool (a0_0 != a1_0), .int .u64 t259, .int .u64 t260] (0, 0) _ rfl (br_ BK258) Tryz.underlying90 rfl (by kernel_rfl)) rfl ?_
 exact ⟨ae, bf HB⟩

end Go.Proofs.YtfhokgkpcphmlaaGreatDoor.X
