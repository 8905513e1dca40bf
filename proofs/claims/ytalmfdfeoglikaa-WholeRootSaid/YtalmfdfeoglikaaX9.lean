/- The walks of functions of the program, laid by a program of this session over the translation: each '.calls' says that the Go function comes to what its Lean function tells. Conditions: as each theorem's head says. -/
import Derived.Test.YtalmfdfeoglikaaX0
import Derived.Test.YtalmfdfeoglikaaX4
import Derived.Test.YtalmfdfeoglikaaX5
import Derived.Test.YtalmfdfeoglikaaX8
namespace Go.Proofs.Ytalmfdfeoglikaa.X
open Go.RowKit Go.Proofs.YtalmfdfeoglikaaW.PrintWords Go.Proofs.YtalmfdfeoglikaaW.PrintLast Go.Proofs.YtalmfdfeoglikaaW.PrintMore
attribute [local go_sem] max2_int min2_int max_two min_two max_three min_three max_four min_four   -- for this text's walks alone
set_option linter.unusedVariables false
set_option linter.unusedSimpArgs false

/-! ### carrefourref01_Compare: function 27 -/
def carrefourref01_Compare.j0 : Nat → Int → Int → Int → Int → Int → Bool → Option (Int)
  | 0, _, _, _, _, _, _ => none
  | k + 1, x0, x1, x2, x3, x9, x40 => if x40 = true then (if (wrap64 (x0 * x1)) < (wrap64 (x2 * x3)) then (some (-1)) else (if (wrap64 (x0 * x1)) > (wrap64 (x2 * x3)) then (some 1) else (some 0))) else ((carrefourref01_Size.f x0).bind fun t323 => ((carrefourref01_Size.f x1).bind fun t324 => ((carrefourref01_Times.f k t323 t324).bind fun t325 => ((carrefourref01_Size.f x2).bind fun t328 => ((carrefourref01_Size.f x3).bind fun t329 => ((carrefourref01_Times.f k t328 t329).bind fun t330 => ((carrefourref01_Order.f k t325 t330).bind fun t333 => (some (wrap64 (x9 * t333))))))))))
def carrefourref01_Compare.f (k : Nat) (a0 : Int) (a1 : Int) (a2 : Int) (a3 : Int) : Option (Int) := (carrefourref01_sign.f k a0 a1).bind fun t317 => ((carrefourref01_sign.f k a2 a3).bind fun t318 => (if t317 < t318 then (some (-1)) else (if t317 > t318 then (some 1) else ((carrefourref01_Size.f a0).bind fun t319 => (if t319 < 2147483648 then ((carrefourref01_Size.f a1).bind fun t320 => (if t320 < 2147483648 then ((carrefourref01_Size.f a2).bind fun t321 => (if t321 < 2147483648 then ((carrefourref01_Size.f a3).bind fun t322 => (carrefourref01_Compare.j0 k a0 a1 a2 a3 t317 (decide (t322 < 2147483648)))) else (carrefourref01_Compare.j0 k a0 a1 a2 a3 t317 false))) else (carrefourref01_Compare.j0 k a0 a1 a2 a3 t317 false))) else (carrefourref01_Compare.j0 k a0 a1 a2 a3 t317 false))))))
theorem carrefourref01_Compare.mono_l : ∀ k, (∀ y0 y1 y2 y3 y4 y5, LeO (carrefourref01_Compare.j0 k y0 y1 y2 y3 y4 y5) (carrefourref01_Compare.j0 (k + 1) y0 y1 y2 y3 y4 y5))
  | 0 => fun _ _ _ _ _ _ r h => by simp [carrefourref01_Compare.j0] at h
  | k + 1 => by
    have ih0 := carrefourref01_Compare.mono_l k
    · intro y0 y1 y2 y3 y4 y5
      unfold carrefourref01_Compare.j0
      repeat' first
      | (with_reducible exact ih0 _ _ _ _ _ _)
      | (with_reducible exact carrefourref01_Order.mono _ _ _)
      | (with_reducible exact carrefourref01_Times.mono _ _ _)
      | (with_reducible exact carrefourref01_sign.mono _ _ _)
      | (with_reducible exact LeO.refl _)
      | (with_reducible exact LeO.none _)
      | (with_reducible refine LeO.ite ?_ ?_)
      | (with_reducible refine LeO.bind ?_ (fun _ => ?_))
      | exact ih0 _ _ _ _ _ _
      | exact carrefourref01_Order.mono _ _ _
      | exact carrefourref01_Times.mono _ _ _
      | exact carrefourref01_sign.mono _ _ _
      | exact LeO.none _
      | refine LeO.ite ?_ ?_
      | refine LeO.bind ?_ (fun _ => ?_)
theorem carrefourref01_Compare.mono : ∀ a0 a1 a2 a3 k, LeO (carrefourref01_Compare.f k a0 a1 a2 a3) (carrefourref01_Compare.f (k + 1) a0 a1 a2 a3) := by
  intro a0 a1 a2 a3 k
  have ih0 := carrefourref01_Compare.mono_l k
  unfold carrefourref01_Compare.f
  repeat' first
      | (with_reducible exact ih0 _ _ _ _ _ _)
      | (with_reducible exact carrefourref01_Order.mono _ _ _)
      | (with_reducible exact carrefourref01_Times.mono _ _ _)
      | (with_reducible exact carrefourref01_sign.mono _ _ _)
      | (with_reducible exact LeO.refl _)
      | (with_reducible exact LeO.none _)
      | (with_reducible refine LeO.ite ?_ ?_)
      | (with_reducible refine LeO.bind ?_ (fun _ => ?_))
      | exact ih0 _ _ _ _ _ _
      | exact carrefourref01_Order.mono _ _ _
      | exact carrefourref01_Times.mono _ _ _
      | exact carrefourref01_sign.mono _ _ _
      | exact LeO.none _
      | refine LeO.ite ?_ ?_
      | refine LeO.bind ?_ (fun _ => ?_)
set_option maxHeartbeats 8000000 in
set_option maxRecDepth 100000 in
theorem carrefourref01_Compare.calls (k : Nat) (a0 : Int) (a1 : Int) (a2 : Int) (a3 : Int) (r : Int) (w : World) (h : carrefourref01_Compare.f k a0 a1 a2 a3 = some r) :
    Calls Try.prog 27 #[.int .i64 a0, .int .i64 a1, .int .i64 a2, .int .i64 a3] w fun e w' => e = .returned (.int .i64 r) ∧ Below w.heap.size w w' := by
  have HB := Aside0.mk (Below.refl w.heap.size w)
  have H : ((carrefourref01_sign.f k a0 a1).bind fun t317 => ((carrefourref01_sign.f k a2 a3).bind fun t318 => (if t317 < t318 then (some (-1)) else (if t317 > t318 then (some 1) else ((carrefourref01_Size.f a0).bind fun t319 => (if t319 < 2147483648 then ((carrefourref01_Size.f a1).bind fun t320 => (if t320 < 2147483648 then ((carrefourref01_Size.f a2).bind fun t321 => (if t321 < 2147483648 then ((carrefourref01_Size.f a3).bind fun t322 => (carrefourref01_Compare.j0 k a0 a1 a2 a3 t317 (decide (t322 < 2147483648)))) else (carrefourref01_Compare.j0 k a0 a1 a2 a3 t317 false))) else (carrefourref01_Compare.j0 k a0 a1 a2 a3 t317 false))) else (carrefourref01_Compare.j0 k a0 a1 a2 a3 t317 false))))))) = some r := h
  clear h
  replace H := Option.bind_eq_some_iff.mp H
  obtain ⟨t317, A50, H⟩ := H
  replace H : ((carrefourref01_sign.f k a2 a3).bind fun t318 => (if t317 < t318 then (some (-1)) else (if t317 > t318 then (some 1) else ((carrefourref01_Size.f a0).bind fun t319 => (if t319 < 2147483648 then ((carrefourref01_Size.f a1).bind fun t320 => (if t320 < 2147483648 then ((carrefourref01_Size.f a2).bind fun t321 => (if t321 < 2147483648 then ((carrefourref01_Size.f a3).bind fun t322 => (carrefourref01_Compare.j0 k a0 a1 a2 a3 t317 (decide (t322 < 2147483648)))) else (carrefourref01_Compare.j0 k a0 a1 a2 a3 t317 false))) else (carrefourref01_Compare.j0 k a0 a1 a2 a3 t317 false))) else (carrefourref01_Compare.j0 k a0 a1 a2 a3 t317 false)))))) = some r := H
  have A5 := Aside0.mk A50
  clear A50
  replace H := Option.bind_eq_some_iff.mp H
  obtain ⟨t318, A60, H⟩ := H
  replace H : (if t317 < t318 then (some (-1)) else (if t317 > t318 then (some 1) else ((carrefourref01_Size.f a0).bind fun t319 => (if t319 < 2147483648 then ((carrefourref01_Size.f a1).bind fun t320 => (if t320 < 2147483648 then ((carrefourref01_Size.f a2).bind fun t321 => (if t321 < 2147483648 then ((carrefourref01_Size.f a3).bind fun t322 => (carrefourref01_Compare.j0 k a0 a1 a2 a3 t317 (decide (t322 < 2147483648)))) else (carrefourref01_Compare.j0 k a0 a1 a2 a3 t317 false))) else (carrefourref01_Compare.j0 k a0 a1 a2 a3 t317 false))) else (carrefourref01_Compare.j0 k a0 a1 a2 a3 t317 false))))) = some r := H
  have A6 := Aside0.mk A60
  clear A60
  by_cases c7 : t317 < t318
  · rw [if_pos c7] at H
    have c7b0 : decide (t317 < t318) = true := decide_eq_true c7
    clear c7
    obtain rfl := Option.some.inj H
    go_enter Try.func27, Try.ntmps27
    go_wp2_with (first | ((with_reducible refine gate_callee (f := 41) rfl ?_); refine goesL_ (some 13) rfl rfl Try.func41 (by kernel_rfl) rfl #[.int .i64 a0, .int .i64 a1] rfl (by (try simp only [List.map_toArray, List.map_cons, List.map_nil]); first | done | rfl | (simp only [List.length_drop, List.length_take]; rfl)) ?_; (with_reducible refine (carrefourref01_sign.calls k a0 a1 t317 _ A5.out).mono ?_); rintro e w' ⟨rfl, ⟨nd, rfl⟩⟩; refine ⟨_, rfl, ?_⟩) | ((with_reducible refine gate_callee (f := 41) rfl ?_); refine goesL_ (some 16) rfl rfl Try.func41 (by kernel_rfl) rfl #[.int .i64 a2, .int .i64 a3] rfl (by (try simp only [List.map_toArray, List.map_cons, List.map_nil]); first | done | rfl | (simp only [List.length_drop, List.length_take]; rfl)) ?_; (with_reducible refine (carrefourref01_sign.calls k a2 a3 t318 _ A6.out).mono ?_); rintro e w' ⟨rfl, ⟨nd, rfl⟩⟩; refine ⟨_, rfl, ?_⟩))
    go_ret
    exact ⟨by first | rfl | (simp [errW_none, errW_some] <;> rfl) | (simp [*, errW_none, errW_some] <;> rfl), by repeat (first | (with_reducible first | exact HB.out | apply below_alloc | apply pw_below_drewN | apply below_drew1) | exact HB.out)⟩
  · rw [if_neg c7] at H
    have c7b0 : decide (t317 < t318) = false := decide_eq_false c7
    clear c7
    by_cases c8 : t317 > t318
    · rw [if_pos c8] at H
      have c8b0 : decide (t318 < t317) = true := decide_eq_true c8
      clear c8
      obtain rfl := Option.some.inj H
      go_enter Try.func27, Try.ntmps27
      go_wp2_with (first | ((with_reducible refine gate_callee (f := 41) rfl ?_); refine goesL_ (some 13) rfl rfl Try.func41 (by kernel_rfl) rfl #[.int .i64 a0, .int .i64 a1] rfl (by (try simp only [List.map_toArray, List.map_cons, List.map_nil]); first | done | rfl | (simp only [List.length_drop, List.length_take]; rfl)) ?_; (with_reducible refine (carrefourref01_sign.calls k a0 a1 t317 _ A5.out).mono ?_); rintro e w' ⟨rfl, ⟨nd, rfl⟩⟩; refine ⟨_, rfl, ?_⟩) | ((with_reducible refine gate_callee (f := 41) rfl ?_); refine goesL_ (some 16) rfl rfl Try.func41 (by kernel_rfl) rfl #[.int .i64 a2, .int .i64 a3] rfl (by (try simp only [List.map_toArray, List.map_cons, List.map_nil]); first | done | rfl | (simp only [List.length_drop, List.length_take]; rfl)) ?_; (with_reducible refine (carrefourref01_sign.calls k a2 a3 t318 _ A6.out).mono ?_); rintro e w' ⟨rfl, ⟨nd, rfl⟩⟩; refine ⟨_, rfl, ?_⟩))
      go_ret
      exact ⟨by first | rfl | (simp [errW_none, errW_some] <;> rfl) | (simp [*, errW_none, errW_some] <;> rfl), by repeat (first | (with_reducible first | exact HB.out | apply below_alloc | apply pw_below_drewN | apply below_drew1) | exact HB.out)⟩
    · rw [if_neg c8] at H
      have c8b0 : decide (t318 < t317) = false := decide_eq_false c8
      clear c8
      have HC9 := Aside0.mk H
      clear H
      go_enter Try.func27, Try.ntmps27
      go_upto_region 7 with (first | ((with_reducible refine gate_callee (f := 41) rfl ?_); refine goesL_ (some 13) rfl rfl Try.func41 (by kernel_rfl) rfl #[.int .i64 a0, .int .i64 a1] rfl (by (try simp only [List.map_toArray, List.map_cons, List.map_nil]); first | done | rfl | (simp only [List.length_drop, List.length_take]; rfl)) ?_; (with_reducible refine (carrefourref01_sign.calls k a0 a1 t317 _ A5.out).mono ?_); rintro e w' ⟨rfl, ⟨nd, rfl⟩⟩; refine ⟨_, rfl, ?_⟩) | ((with_reducible refine gate_callee (f := 41) rfl ?_); refine goesL_ (some 16) rfl rfl Try.func41 (by kernel_rfl) rfl #[.int .i64 a2, .int .i64 a3] rfl (by (try simp only [List.map_toArray, List.map_cons, List.map_nil]); first | done | rfl | (simp only [List.length_drop, List.length_take]; rfl)) ?_; (with_reducible refine (carrefourref01_sign.calls k a2 a3 t318 _ A6.out).mono ?_); rintro e w' ⟨rfl, ⟨nd, rfl⟩⟩; refine ⟨_, rfl, ?_⟩))
      (try simp only [Act.put, List.setIfInBounds_toArray, List.set_cons_zero, List.set_cons_succ])
      go_cut [40] (fun v40 wc => ∃ (kq : Nat) (x40_8 : Bool), v40 = .bool x40_8 ∧ Aside0 (carrefourref01_Compare.j0 kq a0 a1 a2 a3 t317 x40_8 = some r) ∧ Aside0 (kq ≤ k) ∧ Aside0 (Below w.heap.size w wc))
      case first =>
        have H := HC9.out
        clear HC9
        replace H := Option.bind_eq_some_iff.mp H
        obtain ⟨t319, A100, H⟩ := H
        replace H : (if t319 < 2147483648 then ((carrefourref01_Size.f a1).bind fun t320 => (if t320 < 2147483648 then ((carrefourref01_Size.f a2).bind fun t321 => (if t321 < 2147483648 then ((carrefourref01_Size.f a3).bind fun t322 => (carrefourref01_Compare.j0 k a0 a1 a2 a3 t317 (decide (t322 < 2147483648)))) else (carrefourref01_Compare.j0 k a0 a1 a2 a3 t317 false))) else (carrefourref01_Compare.j0 k a0 a1 a2 a3 t317 false))) else (carrefourref01_Compare.j0 k a0 a1 a2 a3 t317 false)) = some r := H
        have A10 := Aside0.mk A100
        clear A100
        by_cases c11 : t319 < 2147483648
        · rw [if_pos c11] at H
          have c11b0 : decide (t319 < 2147483648) = true := decide_eq_true c11
          clear c11
          (first | rw [c11b0] | (simp only [i64_w, i32_w]; rw [c11b0]) | skip)
          replace H := Option.bind_eq_some_iff.mp H
          obtain ⟨t320, A120, H⟩ := H
          replace H : (if t320 < 2147483648 then ((carrefourref01_Size.f a2).bind fun t321 => (if t321 < 2147483648 then ((carrefourref01_Size.f a3).bind fun t322 => (carrefourref01_Compare.j0 k a0 a1 a2 a3 t317 (decide (t322 < 2147483648)))) else (carrefourref01_Compare.j0 k a0 a1 a2 a3 t317 false))) else (carrefourref01_Compare.j0 k a0 a1 a2 a3 t317 false)) = some r := H
          have A12 := Aside0.mk A120
          clear A120
          by_cases c13 : t320 < 2147483648
          · rw [if_pos c13] at H
            have c13b0 : decide (t320 < 2147483648) = true := decide_eq_true c13
            clear c13
            replace H := Option.bind_eq_some_iff.mp H
            obtain ⟨t321, A140, H⟩ := H
            replace H : (if t321 < 2147483648 then ((carrefourref01_Size.f a3).bind fun t322 => (carrefourref01_Compare.j0 k a0 a1 a2 a3 t317 (decide (t322 < 2147483648)))) else (carrefourref01_Compare.j0 k a0 a1 a2 a3 t317 false)) = some r := H
            have A14 := Aside0.mk A140
            clear A140
            by_cases c15 : t321 < 2147483648
            · rw [if_pos c15] at H
              have c15b0 : decide (t321 < 2147483648) = true := decide_eq_true c15
              clear c15
              replace H := Option.bind_eq_some_iff.mp H
              obtain ⟨t322, A160, H⟩ := H
              replace H : (carrefourref01_Compare.j0 k a0 a1 a2 a3 t317 (decide (t322 < 2147483648))) = some r := H
              have A16 := Aside0.mk A160
              clear A160
              have H' := Aside0.mk H
              clear H
              go_wp2_with (first | ((with_reducible refine gate_callee (f := 36) rfl ?_); refine goesL_ (some 24) rfl rfl Try.func36 (by kernel_rfl) rfl #[.int .i64 a0] rfl (by (try simp only [List.map_toArray, List.map_cons, List.map_nil]); first | done | rfl | (simp only [List.length_drop, List.length_take]; rfl)) ?_; (with_reducible refine (carrefourref01_Size.calls a0 t319 _ A10.out).mono ?_); rintro e w' ⟨rfl, ⟨nd, rfl⟩⟩; refine ⟨_, rfl, ?_⟩) | (go_at_call 36; (with_reducible refine (carrefourref01_Size.calls a1 t320 _ A12.out).mono ?_); rintro e w' ⟨rfl, ⟨nd, rfl⟩⟩) | (go_at_call 36; (with_reducible refine (carrefourref01_Size.calls a2 t321 _ A14.out).mono ?_); rintro e w' ⟨rfl, ⟨nd, rfl⟩⟩) | (go_at_call 36; (with_reducible refine (carrefourref01_Size.calls a3 t322 _ A16.out).mono ?_); rintro e w' ⟨rfl, ⟨nd, rfl⟩⟩))
              go_meet
              case rel => exact ⟨_, (decide (t322 < 2147483648)), (by first | rfl | (simp; done) | (simp [*]; done)), H', ⟨by first | omega | exact Nat.le_refl _⟩, ⟨by repeat (first | (with_reducible first | exact HB.out | apply below_alloc | apply pw_below_drewN | apply below_drew1) | exact HB.out)⟩⟩
            · rw [if_neg c15] at H
              have c15b0 : decide (t321 < 2147483648) = false := decide_eq_false c15
              clear c15
              have H' := Aside0.mk H
              clear H
              go_wp2_with (first | ((with_reducible refine gate_callee (f := 36) rfl ?_); refine goesL_ (some 24) rfl rfl Try.func36 (by kernel_rfl) rfl #[.int .i64 a0] rfl (by (try simp only [List.map_toArray, List.map_cons, List.map_nil]); first | done | rfl | (simp only [List.length_drop, List.length_take]; rfl)) ?_; (with_reducible refine (carrefourref01_Size.calls a0 t319 _ A10.out).mono ?_); rintro e w' ⟨rfl, ⟨nd, rfl⟩⟩; refine ⟨_, rfl, ?_⟩) | (go_at_call 36; (with_reducible refine (carrefourref01_Size.calls a1 t320 _ A12.out).mono ?_); rintro e w' ⟨rfl, ⟨nd, rfl⟩⟩) | (go_at_call 36; (with_reducible refine (carrefourref01_Size.calls a2 t321 _ A14.out).mono ?_); rintro e w' ⟨rfl, ⟨nd, rfl⟩⟩))
              go_meet
              case rel => exact ⟨_, (false), (by first | rfl | (simp; done) | (simp [*]; done)), H', ⟨by first | omega | exact Nat.le_refl _⟩, ⟨by repeat (first | (with_reducible first | exact HB.out | apply below_alloc | apply pw_below_drewN | apply below_drew1) | exact HB.out)⟩⟩
          · rw [if_neg c13] at H
            have c13b0 : decide (t320 < 2147483648) = false := decide_eq_false c13
            clear c13
            have H' := Aside0.mk H
            clear H
            go_wp2_with (first | ((with_reducible refine gate_callee (f := 36) rfl ?_); refine goesL_ (some 24) rfl rfl Try.func36 (by kernel_rfl) rfl #[.int .i64 a0] rfl (by (try simp only [List.map_toArray, List.map_cons, List.map_nil]); first | done | rfl | (simp only [List.length_drop, List.length_take]; rfl)) ?_; (with_reducible refine (carrefourref01_Size.calls a0 t319 _ A10.out).mono ?_); rintro e w' ⟨rfl, ⟨nd, rfl⟩⟩; refine ⟨_, rfl, ?_⟩) | (go_at_call 36; (with_reducible refine (carrefourref01_Size.calls a1 t320 _ A12.out).mono ?_); rintro e w' ⟨rfl, ⟨nd, rfl⟩⟩))
            go_meet
            case rel => exact ⟨_, (false), (by first | rfl | (simp; done) | (simp [*]; done)), H', ⟨by first | omega | exact Nat.le_refl _⟩, ⟨by repeat (first | (with_reducible first | exact HB.out | apply below_alloc | apply pw_below_drewN | apply below_drew1) | exact HB.out)⟩⟩
        · rw [if_neg c11] at H
          have c11b0 : decide (t319 < 2147483648) = false := decide_eq_false c11
          clear c11
          (first | rw [c11b0] | (simp only [i64_w, i32_w]; rw [c11b0]) | skip)
          have H' := Aside0.mk H
          clear H
          go_wp2_with (first | ((with_reducible refine gate_callee (f := 36) rfl ?_); refine goesL_ (some 24) rfl rfl Try.func36 (by kernel_rfl) rfl #[.int .i64 a0] rfl (by (try simp only [List.map_toArray, List.map_cons, List.map_nil]); first | done | rfl | (simp only [List.length_drop, List.length_take]; rfl)) ?_; (with_reducible refine (carrefourref01_Size.calls a0 t319 _ A10.out).mono ?_); rintro e w' ⟨rfl, ⟨nd, rfl⟩⟩; refine ⟨_, rfl, ?_⟩))
          go_meet
          case rel => exact ⟨_, (false), (by first | rfl | (simp; done) | (simp [*]; done)), H', ⟨by first | omega | exact Nat.le_refl _⟩, ⟨by repeat (first | (with_reducible first | exact HB.out | apply below_alloc | apply pw_below_drewN | apply below_drew1) | exact HB.out)⟩⟩
      case rest =>
        clear HC9
        try clear c1
        try clear c2
        try clear p2
        try clear c3
        try clear c4
        try clear c7
        try clear c7b0
        try clear c8
        try clear c8b0
        try clear c11
        try clear c11b0
        try clear c13
        try clear c13b0
        try clear c15
        try clear c15b0
        obtain ⟨kq, x40_8, rfl, HA, HJ8, HB⟩ := hcut
        cases kq with
        | zero => exact absurd HA.out (by simp [carrefourref01_Compare.j0])
        | succ kj8 =>
          have H := HA.out
          clear HA
          simp only [carrefourref01_Compare.j0] at H
          by_cases c17 : x40_8 = true
          · subst c17
            have H1 : (if (wrap64 (a0 * a1)) < (wrap64 (a2 * a3)) then (some (-1)) else (if (wrap64 (a0 * a1)) > (wrap64 (a2 * a3)) then (some 1) else (some 0))) = some r := by rw [if_pos rfl] at H; exact H
            clear H
            have H := H1
            clear H1
            by_cases c18 : (wrap64 (a0 * a1)) < (wrap64 (a2 * a3))
            · rw [if_pos c18] at H
              have c18b0 : decide ((wrap64 (a0 * a1)) < (wrap64 (a2 * a3))) = true := decide_eq_true c18
              clear c18
              obtain rfl := Option.some.inj H
              go_wp2
              go_ret
              exact ⟨by first | rfl | (simp [errW_none, errW_some] <;> rfl) | (simp [*, errW_none, errW_some] <;> rfl), by repeat (first | (with_reducible first | exact HB.out | apply below_alloc | apply pw_below_drewN | apply below_drew1) | exact HB.out)⟩
            · rw [if_neg c18] at H
              have c18b0 : decide ((wrap64 (a0 * a1)) < (wrap64 (a2 * a3))) = false := decide_eq_false c18
              clear c18
              by_cases c19 : (wrap64 (a0 * a1)) > (wrap64 (a2 * a3))
              · rw [if_pos c19] at H
                have c19b0 : decide ((wrap64 (a2 * a3)) < (wrap64 (a0 * a1))) = true := decide_eq_true c19
                clear c19
                obtain rfl := Option.some.inj H
                go_wp2
                go_ret
                exact ⟨by first | rfl | (simp [errW_none, errW_some] <;> rfl) | (simp [*, errW_none, errW_some] <;> rfl), by repeat (first | (with_reducible first | exact HB.out | apply below_alloc | apply pw_below_drewN | apply below_drew1) | exact HB.out)⟩
              · rw [if_neg c19] at H
                have c19b0 : decide ((wrap64 (a2 * a3)) < (wrap64 (a0 * a1))) = false := decide_eq_false c19
                clear c19
                obtain rfl := Option.some.inj H
                go_wp2
                go_ret
                exact ⟨by first | rfl | (simp [errW_none, errW_some] <;> rfl) | (simp [*, errW_none, errW_some] <;> rfl), by repeat (first | (with_reducible first | exact HB.out | apply below_alloc | apply pw_below_drewN | apply below_drew1) | exact HB.out)⟩
          · replace c17 := Bool.eq_false_iff.mpr c17
            subst c17
            have H1 : ((carrefourref01_Size.f a0).bind fun t323 => ((carrefourref01_Size.f a1).bind fun t324 => ((carrefourref01_Times.f kj8 t323 t324).bind fun t325 => ((carrefourref01_Size.f a2).bind fun t328 => ((carrefourref01_Size.f a3).bind fun t329 => ((carrefourref01_Times.f kj8 t328 t329).bind fun t330 => ((carrefourref01_Order.f kj8 t325 t330).bind fun t333 => (some (wrap64 (t317 * t333)))))))))) = some r := by rw [if_neg (show ¬ (false = true) by decide)] at H; exact H
            clear H
            have H := H1
            clear H1
            replace H := Option.bind_eq_some_iff.mp H
            obtain ⟨t323, A200, H⟩ := H
            replace H : ((carrefourref01_Size.f a1).bind fun t324 => ((carrefourref01_Times.f kj8 t323 t324).bind fun t325 => ((carrefourref01_Size.f a2).bind fun t328 => ((carrefourref01_Size.f a3).bind fun t329 => ((carrefourref01_Times.f kj8 t328 t329).bind fun t330 => ((carrefourref01_Order.f kj8 t325 t330).bind fun t333 => (some (wrap64 (t317 * t333))))))))) = some r := H
            have A20 := Aside0.mk A200
            clear A200
            replace H := Option.bind_eq_some_iff.mp H
            obtain ⟨t324, A210, H⟩ := H
            replace H : ((carrefourref01_Times.f kj8 t323 t324).bind fun t325 => ((carrefourref01_Size.f a2).bind fun t328 => ((carrefourref01_Size.f a3).bind fun t329 => ((carrefourref01_Times.f kj8 t328 t329).bind fun t330 => ((carrefourref01_Order.f kj8 t325 t330).bind fun t333 => (some (wrap64 (t317 * t333)))))))) = some r := H
            have A21 := Aside0.mk A210
            clear A210
            replace H := Option.bind_eq_some_iff.mp H
            obtain ⟨t325, A220, H⟩ := H
            replace H : ((carrefourref01_Size.f a2).bind fun t328 => ((carrefourref01_Size.f a3).bind fun t329 => ((carrefourref01_Times.f kj8 t328 t329).bind fun t330 => ((carrefourref01_Order.f kj8 t325 t330).bind fun t333 => (some (wrap64 (t317 * t333))))))) = some r := H
            have A22 := Aside0.mk A220
            clear A220
            replace H := Option.bind_eq_some_iff.mp H
            obtain ⟨t328, A230, H⟩ := H
            replace H : ((carrefourref01_Size.f a3).bind fun t329 => ((carrefourref01_Times.f kj8 t328 t329).bind fun t330 => ((carrefourref01_Order.f kj8 t325 t330).bind fun t333 => (some (wrap64 (t317 * t333)))))) = some r := H
            have A23 := Aside0.mk A230
            clear A230
            replace H := Option.bind_eq_some_iff.mp H
            obtain ⟨t329, A240, H⟩ := H
            replace H : ((carrefourref01_Times.f kj8 t328 t329).bind fun t330 => ((carrefourref01_Order.f kj8 t325 t330).bind fun t333 => (some (wrap64 (t317 * t333))))) = some r := H
            have A24 := Aside0.mk A240
            clear A240
            replace H := Option.bind_eq_some_iff.mp H
            obtain ⟨t330, A250, H⟩ := H
            replace H : ((carrefourref01_Order.f kj8 t325 t330).bind fun t333 => (some (wrap64 (t317 * t333)))) = some r := H
            have A25 := Aside0.mk A250
            clear A250
            replace H := Option.bind_eq_some_iff.mp H
            obtain ⟨t333, A260, H⟩ := H
            replace H : (some (wrap64 (t317 * t333))) = some r := H
            have A26 := Aside0.mk A260
            clear A260
            obtain rfl := Option.some.inj H
            go_wp2_with (first | ((with_reducible refine gate_callee (f := 36) rfl ?_); refine goesL_ (some 57) rfl rfl Try.func36 (by kernel_rfl) rfl #[.int .i64 a0] rfl (by (try simp only [List.map_toArray, List.map_cons, List.map_nil]); first | done | rfl | (simp only [List.length_drop, List.length_take]; rfl)) ?_; (with_reducible refine (carrefourref01_Size.calls a0 t323 _ A20.out).mono ?_); rintro e w' ⟨rfl, ⟨nd, rfl⟩⟩; refine ⟨_, rfl, ?_⟩) | ((with_reducible refine gate_callee (f := 36) rfl ?_); refine goesL_ (some 59) rfl rfl Try.func36 (by kernel_rfl) rfl #[.int .i64 a1] rfl (by (try simp only [List.map_toArray, List.map_cons, List.map_nil]); first | done | rfl | (simp only [List.length_drop, List.length_take]; rfl)) ?_; (with_reducible refine (carrefourref01_Size.calls a1 t324 _ A21.out).mono ?_); rintro e w' ⟨rfl, ⟨nd, rfl⟩⟩; refine ⟨_, rfl, ?_⟩) | ((with_reducible refine gate_callee (f := 35) rfl ?_); refine goesL_ (some 60) rfl rfl Try.func35 (by kernel_rfl) rfl #[.int .u64 t323, .int .u64 t324] rfl (by (try simp only [List.map_toArray, List.map_cons, List.map_nil]); first | done | rfl | (simp only [List.length_drop, List.length_take]; rfl)) ?_; (with_reducible refine (carrefourref01_Times.calls kj8 t323 t324 t325 _ A22.out).mono ?_); rintro e w27 ⟨v326, rfl, ho0, hb⟩; refine ⟨_, rfl, ?_⟩; have n0_ := Aside0.mk (Kd.R_lower ho0 (below_size (by repeat (first | (with_reducible first | exact HB.out | apply below_alloc | apply pw_below_drewN | apply below_drew1) | exact HB.out)))); have n1_ := Aside0.mk (below_step (by repeat (first | (with_reducible first | exact HB.out | apply below_alloc | apply pw_below_drewN | apply below_drew1) | exact HB.out)) hb); clear HB; have HO327 := n0_; have HB := n1_; clear n0_ n1_; (try clear hb); (try clear hb2); (try clear hk); (try clear hi); (try clear ho0)) | ((with_reducible refine gate_callee (f := 36) rfl ?_); refine goesL_ (some 62) rfl rfl Try.func36 (by kernel_rfl) rfl #[.int .i64 a2] rfl (by (try simp only [List.map_toArray, List.map_cons, List.map_nil]); first | done | rfl | (simp only [List.length_drop, List.length_take]; rfl)) ?_; (with_reducible refine (carrefourref01_Size.calls a2 t328 _ A23.out).mono ?_); rintro e w' ⟨rfl, ⟨nd, rfl⟩⟩; refine ⟨_, rfl, ?_⟩) | ((with_reducible refine gate_callee (f := 36) rfl ?_); refine goesL_ (some 64) rfl rfl Try.func36 (by kernel_rfl) rfl #[.int .i64 a3] rfl (by (try simp only [List.map_toArray, List.map_cons, List.map_nil]); first | done | rfl | (simp only [List.length_drop, List.length_take]; rfl)) ?_; (with_reducible refine (carrefourref01_Size.calls a3 t329 _ A24.out).mono ?_); rintro e w' ⟨rfl, ⟨nd, rfl⟩⟩; refine ⟨_, rfl, ?_⟩) | ((with_reducible refine gate_callee (f := 35) rfl ?_); refine goesL_ (some 65) rfl rfl Try.func35 (by kernel_rfl) rfl #[.int .u64 t328, .int .u64 t329] rfl (by (try simp only [List.map_toArray, List.map_cons, List.map_nil]); first | done | rfl | (simp only [List.length_drop, List.length_take]; rfl)) ?_; (with_reducible refine (carrefourref01_Times.calls kj8 t328 t329 t330 _ A25.out).mono ?_); rintro e w28 ⟨v331, rfl, ho0, hb⟩; refine ⟨_, rfl, ?_⟩; have n0_ := Aside0.mk (Kd.R_elder' (by (with_reducible repeat (first | apply Kd.R_alloc | apply Kd.R_drewN | apply Kd.R_drew)); exact HO327.out) (Kd.R_base ho0) hb); have n1_ := Aside0.mk (Kd.R_lower (Kd.R_new' ho0 (Kd.R_lt (by (with_reducible repeat (first | apply Kd.R_alloc | apply Kd.R_drewN | apply Kd.R_drew)); exact HO327.out))) (below_size (by repeat (first | (with_reducible first | exact HB.out | apply below_alloc | apply pw_below_drewN | apply below_drew1) | exact HB.out)))); have n2_ := Aside0.mk (below_step (by repeat (first | (with_reducible first | exact HB.out | apply below_alloc | apply pw_below_drewN | apply below_drew1) | exact HB.out)) hb); clear HO327; clear HB; have HO327 := n0_; have HO332 := n1_; have HB := n2_; clear n0_ n1_ n2_; (try clear hb); (try clear hb2); (try clear hk); (try clear hi); (try clear ho0); obtain ⟨Ao29, co29, eo29⟩ := Kd.R_slice HO327.out; subst eo29; obtain ⟨Ao30, co30, eo30⟩ := Kd.R_slice HO332.out; subst eo30) | ((with_reducible refine gate_callee (f := 38) rfl ?_); refine goesL_ (some 66) rfl rfl Try.func38 (by kernel_rfl) rfl #[.slice Ao29 t325.length co29, .slice Ao30 t330.length co30] rfl (by (try simp only [List.map_toArray, List.map_cons, List.map_nil]); first | done | rfl | (simp only [List.length_drop, List.length_take]; rfl)) ?_; (with_reducible refine (carrefourref01_Order.calls kj8 _ _ t325 _ _ t330 t333 _ ?side1 ?side2 ?side3 ?side4 A26.out).mono ?_); (case side1 => repeat (first | exact (Kd.R_reads' HO327.out).2.2 | (with_reducible refine Kd.C_alloc ?_ _) | (with_reducible refine Kd.C_drewN ?_ _) | (with_reducible refine Kd.C_drew ?_))); (case side2 => exact (Kd.R_reads' HO327.out).2.1); (case side3 => repeat (first | exact (Kd.R_reads' HO332.out).2.2 | (with_reducible refine Kd.C_alloc ?_ _) | (with_reducible refine Kd.C_drewN ?_ _) | (with_reducible refine Kd.C_drew ?_))); (case side4 => exact (Kd.R_reads' HO332.out).2.1); rintro e w31 ⟨rfl, hb⟩; refine ⟨_, rfl, ?_⟩; have n0_ := Aside0.mk (Kd.R_below (by (with_reducible repeat (first | apply Kd.R_alloc | apply Kd.R_drewN | apply Kd.R_drew)); exact HO327.out) hb); have n1_ := Aside0.mk (Kd.R_below (by (with_reducible repeat (first | apply Kd.R_alloc | apply Kd.R_drewN | apply Kd.R_drew)); exact HO332.out) hb); have n2_ := Aside0.mk (below_step (by repeat (first | (with_reducible first | exact HB.out | apply below_alloc | apply pw_below_drewN | apply below_drew1) | exact HB.out)) hb); clear HO327; clear HO332; clear HB; have HO327 := n0_; have HO332 := n1_; have HB := n2_; clear n0_ n1_ n2_; (try clear hb); (try clear hb2); (try clear hk); (try clear hi)))
            go_ret
            exact ⟨by first | rfl | (simp [errW_none, errW_some] <;> rfl) | (simp [*, errW_none, errW_some] <;> rfl), by repeat (first | (with_reducible first | exact HB.out | apply below_alloc | apply pw_below_drewN | apply below_drew1) | exact HB.out)⟩

-- NOT PRINTED: function 7 (carrefourlaw01_WholeCompare)

end Go.Proofs.Ytalmfdfeoglikaa.X
