/- Walks: each '.calls' says that the Go function comes to what its Lean function tells. Conditions: as each theorem's head says. -/
import Derived.Test.YtjgnaccamakpdaaDoorXD
import Derived.Test.YtjgnaccamakpdaaDoorX0
import Derived.Test.YtjgnaccamakpdaaDoorX10
namespace Go.Proofs.YtjgnaccamakpdaaDoor.X
open Go.RowKit Go.Proofs.YtjgnaccamakpdaaDoorW.PrintWords Go.Proofs.YtjgnaccamakpdaaDoorW.PrintLast Go.Proofs.YtjgnaccamakpdaaDoorW.PrintMore
attribute [local go_sem] max2_int min2_int max_two min_two max_three min_three max_four min_four   -- for this text's walks alone
set_option linter.unusedVariables false
set_option maxHeartbeats 8000000
set_option maxRecDepth 100000
set_option linter.unusedSimpArgs false

/-! ### frac_Add: function 10 -/
theorem frac_Add.calls (k : Nat) (a0_0 : Int) (a0_1 : Int) (a1_0 : Int) (a1_1 : Int) (r1 : Int) (r2 : Int) (r3 : Int) (w : World) (h : frac_Add.f k a0_0 a0_1 a1_0 a1_1 = some (r1, r2, r3)) (hT : TabOK w) :
    Calls Tryd.prog 10 #[.agg #[.int .i64 a0_0, .int .i64 a0_1], .agg #[.int .i64 a1_0, .int .i64 a1_1]] w fun e w' => e = .returned (.tuple #[.agg #[.int .i64 r1, .int .i64 r2], .int .i64 r3]) ∧ Below w.heap.size w w' := by
  have GT := Aside0.mk hT
  clear hT
  have hu23 := Tryd.underlying23
  have HB := Aside0.mk (Below.refl w.heap.size w)
  have H : ((frac_added_fn38.f k a0_0 a0_1 a1_0 a1_1).bind fun bt264 => (some (bt264.1, bt264.2.1, bt264.2.2))) = some (r1, r2, r3) := h
  clear h
  replace H := bi_ H; obtain ⟨⟨t264, t265, t266⟩, A3, H⟩ := H
  (try dsimp only at H)
  simp only [Option.some.injEq, Prod.mk.injEq] at H
  obtain ⟨rfl, rfl, rfl⟩ := H
  go_enter Tryd.func10, Tryd.ntmps10
  go_wp2_with (first | ((with_reducible refine gd 2 rfl ?_); refine bx_ 2 23 #[.int .i64 a0_0, .int .i64 a0_1] rfl rfl ?_; intro gb261 hg w4 BK261 hb; have GE261 := bz HB hg; replace HB := bs HB hb; clear hb hg) | ((with_reducible refine gd 3 rfl ?_); refine bx_ 3 23 #[.int .i64 a1_0, .int .i64 a1_1] rfl rfl ?_; intro gb262 hg w5 BK262 hb; have GE262 := bz HB hg; have ⟨NB261_262, NB262_261⟩ := nb BK261 hg; replace BK261 := bb BK261 hb; replace HB := bs HB hb; clear hb hg) | ((with_reducible refine gd 4 rfl ?_); refine bx_ 4 23 #[.int .i64 0, .int .i64 0] rfl rfl ?_; intro gb263 hg w6 BK263 hb; have GE263 := bz HB hg; have ⟨NB261_263, NB263_261⟩ := nb BK261 hg; have ⟨NB262_263, NB263_262⟩ := nb BK262 hg; replace BK261 := bb BK261 hb; replace BK262 := bb BK262 hb; replace HB := bs HB hb; clear hb hg; have hnb7 := nn NB261_262; have hnb8 := nn NB261_263; have hcz9 := k2 BK261; have hnb10 := nn NB262_263; have hcz11 := k2 BK262) | ((with_reducible refine gc 37 rfl ?_); refine gm_ (some 8) rfl rfl Tryd.func37 (frac_added_fn38.calls _ _ _ _ _ _ _ _ _ A3.out (tt GT)) ag ?_; intro w12 hb; replace BK263 := bb BK263 hb; replace HB := bs HB hb; (try clear hb); have hcz13 := k2 BK263))
  refine bodyPost_ret (results_ct rfl _ _ gb263 23 #[.int .i64 t264, .int .i64 t265] (0, 0) _ rfl (br_ BK263) Tryd.underlying23 rfl (by kernel_rfl)) rfl ?_
  exact ⟨ae, bf HB⟩

/-! ### carrefourref01_Size: function 43 -/
theorem carrefourref01_Size.calls (a0 : Int) (r : Int) (w : World) (h : carrefourref01_Size.f a0 = some r) :
    Calls Tryd.prog 43 #[.int .i64 a0] w fun e w' => e = .returned (.int .u64 r) ∧ Drawn0 w w' := by
  have H : (if a0 < 0 then (some (IntKind.u64.wrap (-(IntKind.u64.wrap (a0))))) else (some (IntKind.u64.wrap (a0)))) = some r := h
  clear h
  by_cases c2 : a0 < 0
  · rw [if_pos c2] at H
    have c2b0 : decide (a0 < 0) = true := decide_eq_true c2
    clear c2
    obtain rfl := Option.some.inj H
    go_enter Tryd.func43, Tryd.ntmps43
    go_wp2
    go_ret
    exact ⟨aq, dr⟩
  · rw [if_neg c2] at H
    have c2b0 : decide (a0 < 0) = false := decide_eq_false c2
    clear c2
    obtain rfl := Option.some.inj H
    go_enter Tryd.func43, Tryd.ntmps43
    go_wp2
    go_ret
    exact ⟨aq, dr⟩

/-! ### carrefourref02_gcd: function 53 -/
theorem carrefourref02_gcd.calls (k : Nat) (a0 : Int) (a1 : Int) (r : Int) (w : World) (h : carrefourref02_gcd.f k a0 a1 = some r) :
    Calls Tryd.prog 53 #[.int .u64 a0, .int .u64 a1] w fun e w' => e = .returned (.int .u64 r) ∧ Drawn0 w w' := by
  have H : (carrefourref02_gcd.l0 k a0 a1) = some r := h
  clear h
  have H' := Aside0.mk H
  clear H
  go_enter Tryd.func53, Tryd.ntmps53
  go_wp2
  go_loopg [0, 1] k (fun kq v0 v1 w' => ∃ (x0_1 : Int) (x1_1 : Int), v0 = .int .u64 x0_1 ∧ v1 = .int .u64 x1_1 ∧ Aside0 (carrefourref02_gcd.l0 kq x0_1 x1_1 = some r) ∧ Aside0 (kq ≤ k) ∧ Drawn0 w w')
  case atStart => exact ⟨(a0), (a1), (aq), (aq), H', ⟨Nat.le_refl _⟩, dr⟩
  case round =>
    clear H'
    try clear p2
    obtain ⟨x0_1, x1_1, rfl, rfl, HA, HK1, ⟨m1, rfl⟩⟩ := hrel
    cases gk with
    | zero => exact absurd HA.out (by simp [carrefourref02_gcd.l0])
    | succ k1 =>
      have H := HA.out
      clear HA
      simp only [carrefourref02_gcd.l0] at H
      by_cases c3 : x1_1 = 0
      · rw [if_pos c3] at H
        have c3b0 : (x1_1 == 0) = true := beq_iff_eq.mpr c3
        have c3b1 : (x1_1 != 0) = false := bne_eq_false_iff_eq.mpr c3
        clear c3
        obtain rfl := Option.some.inj H
        go_wp2
        go_ret
        exact ⟨aq, dr⟩
      · rw [if_neg c3] at H
        have c3b0 : (x1_1 == 0) = false := beq_eq_false_iff_ne.mpr c3
        have c3b1 : (x1_1 != 0) = true := bne_iff_ne.mpr c3
        have H' := Aside0.mk H
        clear H
        go_wp2
        go_roundg k1
        case measure => have := HK1.out; omega
        case rel => exact ⟨(x1_1), (Int.tmod x0_1 x1_1), (aq), (aq), H', ⟨by have := HK1.out; omega⟩, dr⟩

/-! ### carrefourref01_Signed: function 75 -/
theorem carrefourref01_Signed.calls (k : Nat) (a0 : Int) (a1 : Bool) (r1 : Int) (r2 : Int) (w : World) (h : carrefourref01_Signed.f k a0 a1 = some (r1, r2)) :
    Calls Tryd.prog 75 #[.int .u64 a0, .bool a1] w fun e w' => e = .returned (.tuple #[.int .i64 r1, .int .i64 r2]) ∧ Drawn0 w w' := by
  have H : (if a0 = 9223372036854775808 then (carrefourref01_Signed.j0 k a0 a1 a1) else (carrefourref01_Signed.j0 k a0 a1 false)) = some (r1, r2) := h
  clear h
  have HC3 := Aside0.mk H
  clear H
  go_enter Tryd.func75, Tryd.ntmps75
  go_upto_region 1 with (fail)
  go_cut [10] (fun v10 wc => ∃ (kq : Nat) (x10_2 : Bool), v10 = .bool x10_2 ∧ Aside0 (carrefourref01_Signed.j0 kq a0 a1 x10_2 = some (r1, r2)) ∧ Aside0 (kq ≤ k) ∧ Drawn0 w wc)
  case first =>
    have H := HC3.out
    clear HC3
    by_cases c4 : a0 = 9223372036854775808
    · rw [if_pos c4] at H
      have c4b0 : (a0 == 9223372036854775808) = true := beq_iff_eq.mpr c4
      have c4b1 : (a0 != 9223372036854775808) = false := bne_eq_false_iff_eq.mpr c4
      clear c4
      (first | rw [c4b0] | (simp only [i64_w, i32_w]; rw [c4b0]) | skip)
      have H' := Aside0.mk H
      clear H
      go_wp2
      go_meet
      case rel => exact ⟨_, (a1), (aq), H', ⟨by first | omega | exact Nat.le_refl _⟩, dr⟩
    · rw [if_neg c4] at H
      have c4b0 : (a0 == 9223372036854775808) = false := beq_eq_false_iff_ne.mpr c4
      have c4b1 : (a0 != 9223372036854775808) = true := bne_iff_ne.mpr c4
      (first | rw [c4b0] | (simp only [i64_w, i32_w]; rw [c4b0]) | skip)
      have H' := Aside0.mk H
      clear H
      go_wp2
      go_meet
      case rel => exact ⟨_, (false), (aq), H', ⟨by first | omega | exact Nat.le_refl _⟩, dr⟩
  case rest =>
    clear HC3
    try clear p2
    try clear c4
    try clear c4b0
    try clear c4b1
    obtain ⟨kq, x10_2, rfl, HA, HJ2, ⟨mc2, rfl⟩⟩ := hcut
    cases kq with
    | zero => exact absurd HA.out (by simp [carrefourref01_Signed.j0])
    | succ kj2 =>
      have H := HA.out
      clear HA
      simp only [carrefourref01_Signed.j0] at H
      by_cases c5 : x10_2 = true
      · subst c5
        have H1 : (some ((-9223372036854775808), 0)) = some (r1, r2) := by rw [if_pos rfl] at H; exact H
        clear H
        have H := H1
        clear H1
        simp only [Option.some.injEq, Prod.mk.injEq] at H
        obtain ⟨rfl, rfl⟩ := H
        go_wp2
        go_ret2
        exact ⟨aq, dr⟩
      · replace c5 := Bool.eq_false_iff.mpr c5
        subst c5
        have H1 : (if a0 > 9223372036854775807 then (some (0, 2)) else (if a1 = true then (some (wrap64 (-(wrap64 (a0))), 0)) else (some (wrap64 (a0), 0)))) = some (r1, r2) := by rw [if_neg (show ¬ (false = true) by decide)] at H; exact H
        clear H
        have H := H1
        clear H1
        by_cases c6 : a0 > 9223372036854775807
        · rw [if_pos c6] at H
          have c6b0 : decide (9223372036854775807 < a0) = true := decide_eq_true c6
          clear c6
          simp only [Option.some.injEq, Prod.mk.injEq] at H
          obtain ⟨rfl, rfl⟩ := H
          go_wp2
          go_ret2
          exact ⟨aq, dr⟩
        · rw [if_neg c6] at H
          have c6b0 : decide (9223372036854775807 < a0) = false := decide_eq_false c6
          clear c6
          by_cases c7 : a1 = true
          · subst c7
            have H1 : (some (wrap64 (-(wrap64 (a0))), 0)) = some (r1, r2) := by rw [if_pos rfl] at H; exact H
            clear H
            have H := H1
            clear H1
            simp only [Option.some.injEq, Prod.mk.injEq] at H
            obtain ⟨rfl, rfl⟩ := H
            go_wp2
            go_ret2
            exact ⟨aq, dr⟩
          · replace c7 := Bool.eq_false_iff.mpr c7
            subst c7
            have H1 : (some (wrap64 (a0), 0)) = some (r1, r2) := by rw [if_neg (show ¬ (false = true) by decide)] at H; exact H
            clear H
            have H := H1
            clear H1
            simp only [Option.some.injEq, Prod.mk.injEq] at H
            obtain ⟨rfl, rfl⟩ := H
            go_wp2
            go_ret2
            exact ⟨aq, dr⟩

/-! ### carrefourref02_made: function 54 -/
theorem carrefourref02_made.calls (k : Nat) (a0 : Int) (a1 : Int) (a2 : Bool) (r1 : Int) (r2 : Int) (r3 : Int) (w : World) (h : carrefourref02_made.f k a0 a1 a2 = some (r1, r2, r3)) :
    Calls Tryd.prog 54 #[.int .u64 a0, .int .u64 a1, .bool a2] w fun e w' => e = .returned (.tuple #[.agg #[.int .i64 r1, .int .i64 r2], .int .i64 r3]) ∧ Below w.heap.size w w' := by
  have hu23 := Tryd.underlying23
  have HB := Aside0.mk (Below.refl w.heap.size w)
  have H : ((carrefourref01_Signed.f k a0 a2).bind fun bt268 => ((carrefourref01_Signed.f k a1 false).bind fun bt270 => (if bt268.2 = 0 then (if bt270.2 = 0 then (some (bt268.1, bt270.1, 0)) else (some (0, 0, 2))) else (some (0, 0, 2))))) = some (r1, r2, r3) := h
  clear h
  replace H := bi_ H; obtain ⟨⟨t268, t269⟩, A4, H⟩ := H
  (try dsimp only at H)
  replace H := bi_ H; obtain ⟨⟨t270, t271⟩, A5, H⟩ := H
  (try dsimp only at H)
  by_cases c6 : t269 = 0
  · rw [if_pos c6] at H
    have c6b0 : (t269 == 0) = true := beq_iff_eq.mpr c6
    have c6b1 : (t269 != 0) = false := bne_eq_false_iff_eq.mpr c6
    clear c6
    by_cases c7 : t271 = 0
    · rw [if_pos c7] at H
      have c7b0 : (t271 == 0) = true := beq_iff_eq.mpr c7
      have c7b1 : (t271 != 0) = false := bne_eq_false_iff_eq.mpr c7
      clear c7
      simp only [Option.some.injEq, Prod.mk.injEq] at H
      obtain ⟨rfl, rfl, rfl⟩ := H
      go_enter Tryd.func54, Tryd.ntmps54
      go_wp2_with (first | ((with_reducible refine gd 6 rfl ?_); refine bx_ 6 23 #[.int .i64 0, .int .i64 0] rfl rfl ?_; intro gb267 hg w8 BK267 hb; have GE267 := bz HB hg; replace HB := bs HB hb; clear hb hg) | ((with_reducible refine gc 75 rfl ?_); refine gm_ (some 15) rfl rfl Tryd.func75 (carrefourref01_Signed.calls _ _ _ _ _ _ A4.out) ag ?_; rintro w' ⟨nd, rfl⟩; (try (rw [drewN_self w8]; generalize hq_ : World.drewN w8 _ = w8; have n0_ : Aside0 (w8.heap[gb267]? = some (.cells #[.int .i64 0, .int .i64 0] 23 (0, 0))) := ⟨by rw [← hq_]; exact (bx BK267)⟩; have n1_ : Aside0 (Below w.heap.size w w8) := ⟨by rw [← hq_]; exact (bf HB)⟩; clear BK267 HB hq_; have BK267 := n0_; have HB := n1_; clear n0_ n1_))) | ((with_reducible refine gc 75 rfl ?_); refine gm_ (some 20) rfl rfl Tryd.func75 (carrefourref01_Signed.calls _ _ _ _ _ _ A5.out) ag ?_; rintro w' ⟨nd, rfl⟩; (try (rw [drewN_self w8]; generalize hq_ : World.drewN w8 _ = w8; have n0_ : Aside0 (w8.heap[gb267]? = some (.cells #[.int .i64 0, .int .i64 0] 23 (0, 0))) := ⟨by rw [← hq_]; exact (bx BK267)⟩; have n1_ : Aside0 (Below w.heap.size w w8) := ⟨by rw [← hq_]; exact (bf HB)⟩; clear BK267 HB hq_; have BK267 := n0_; have HB := n1_; clear n0_ n1_)); have hcz9 := k2 BK267))
      refine bodyPost_ret (results_ct rfl _ _ gb267 23 #[.int .i64 t268, .int .i64 t270] (0, 0) _ rfl (br_ BK267) Tryd.underlying23 rfl (by kernel_rfl)) rfl ?_
      exact ⟨ae, bf HB⟩
    · rw [if_neg c7] at H
      have c7b0 : (t271 == 0) = false := beq_eq_false_iff_ne.mpr c7
      have c7b1 : (t271 != 0) = true := bne_iff_ne.mpr c7
      simp only [Option.some.injEq, Prod.mk.injEq] at H
      obtain ⟨rfl, rfl, rfl⟩ := H
      go_enter Tryd.func54, Tryd.ntmps54
      go_wp2_with (first | ((with_reducible refine gd 6 rfl ?_); refine bx_ 6 23 #[.int .i64 0, .int .i64 0] rfl rfl ?_; intro gb267 hg w10 BK267 hb; have GE267 := bz HB hg; replace HB := bs HB hb; clear hb hg) | ((with_reducible refine gc 75 rfl ?_); refine gm_ (some 15) rfl rfl Tryd.func75 (carrefourref01_Signed.calls _ _ _ _ _ _ A4.out) ag ?_; rintro w' ⟨nd, rfl⟩; (try (rw [drewN_self w10]; generalize hq_ : World.drewN w10 _ = w10; have n0_ : Aside0 (w10.heap[gb267]? = some (.cells #[.int .i64 0, .int .i64 0] 23 (0, 0))) := ⟨by rw [← hq_]; exact (bx BK267)⟩; have n1_ : Aside0 (Below w.heap.size w w10) := ⟨by rw [← hq_]; exact (bf HB)⟩; clear BK267 HB hq_; have BK267 := n0_; have HB := n1_; clear n0_ n1_))) | ((with_reducible refine gc 75 rfl ?_); refine gm_ (some 20) rfl rfl Tryd.func75 (carrefourref01_Signed.calls _ _ _ _ _ _ A5.out) ag ?_; rintro w' ⟨nd, rfl⟩; (try (rw [drewN_self w10]; generalize hq_ : World.drewN w10 _ = w10; have n0_ : Aside0 (w10.heap[gb267]? = some (.cells #[.int .i64 0, .int .i64 0] 23 (0, 0))) := ⟨by rw [← hq_]; exact (bx BK267)⟩; have n1_ : Aside0 (Below w.heap.size w w10) := ⟨by rw [← hq_]; exact (bf HB)⟩; clear BK267 HB hq_; have BK267 := n0_; have HB := n1_; clear n0_ n1_)); have hcz11 := k2 BK267))
      refine bodyPost_ret (results_ct rfl _ _ gb267 23 #[.int .i64 0, .int .i64 0] (0, 0) _ rfl (br_ BK267) Tryd.underlying23 rfl (by kernel_rfl)) rfl ?_
      exact ⟨ae, bf HB⟩
  · rw [if_neg c6] at H
    have c6b0 : (t269 == 0) = false := beq_eq_false_iff_ne.mpr c6
    have c6b1 : (t269 != 0) = true := bne_iff_ne.mpr c6
    simp only [Option.some.injEq, Prod.mk.injEq] at H
    obtain ⟨rfl, rfl, rfl⟩ := H
    go_enter Tryd.func54, Tryd.ntmps54
    go_wp2_with (first | ((with_reducible refine gd 6 rfl ?_); refine bx_ 6 23 #[.int .i64 0, .int .i64 0] rfl rfl ?_; intro gb267 hg w12 BK267 hb; have GE267 := bz HB hg; replace HB := bs HB hb; clear hb hg) | ((with_reducible refine gc 75 rfl ?_); refine gm_ (some 15) rfl rfl Tryd.func75 (carrefourref01_Signed.calls _ _ _ _ _ _ A4.out) ag ?_; rintro w' ⟨nd, rfl⟩; (try (rw [drewN_self w12]; generalize hq_ : World.drewN w12 _ = w12; have n0_ : Aside0 (w12.heap[gb267]? = some (.cells #[.int .i64 0, .int .i64 0] 23 (0, 0))) := ⟨by rw [← hq_]; exact (bx BK267)⟩; have n1_ : Aside0 (Below w.heap.size w w12) := ⟨by rw [← hq_]; exact (bf HB)⟩; clear BK267 HB hq_; have BK267 := n0_; have HB := n1_; clear n0_ n1_))) | ((with_reducible refine gc 75 rfl ?_); refine gm_ (some 20) rfl rfl Tryd.func75 (carrefourref01_Signed.calls _ _ _ _ _ _ A5.out) ag ?_; rintro w' ⟨nd, rfl⟩; (try (rw [drewN_self w12]; generalize hq_ : World.drewN w12 _ = w12; have n0_ : Aside0 (w12.heap[gb267]? = some (.cells #[.int .i64 0, .int .i64 0] 23 (0, 0))) := ⟨by rw [← hq_]; exact (bx BK267)⟩; have n1_ : Aside0 (Below w.heap.size w w12) := ⟨by rw [← hq_]; exact (bf HB)⟩; clear BK267 HB hq_; have BK267 := n0_; have HB := n1_; clear n0_ n1_)); have hcz13 := k2 BK267))
    refine bodyPost_ret (results_ct rfl _ _ gb267 23 #[.int .i64 0, .int .i64 0] (0, 0) _ rfl (br_ BK267) Tryd.underlying23 rfl (by kernel_rfl)) rfl ?_
    exact ⟨ae, bf HB⟩

/-! ### carrefourref02_Of: function 17 -/
def carrefourref02_Of.T6 : Bool × List (List Nat × List Nat) := (true, [([], []), ([], []), ([0, 1], [0, 1]), ([], []), ([], []), ([3, 4], [3, 4]), ([], []), ([6], [6]), ([7], [7]), ([8], [8]), ([9, 8], [8, 9]), ([8], [8]), ([11, 8], [8, 11]), ([10, 12, 8], [8, 10, 12]), ([8, 13], [8, 13]), ([2, 5, 14, 8], [2, 5, 14]), ([15], [15]), ([15], [15]), ([16, 15, 0, 1, 2, 3, 4, 5, 6, 7, 8, 9, 10, 11, 12, 13, 14, 15, 16, 17], [16]), ([17, 18, 0, 1, 2, 3, 4, 5, 6, 7, 8, 9, 10, 11, 12, 13, 14, 15, 16, 17, 18], [17])])
def carrefourref02_Of.B6 : List Nat := [0, 0, 3, 0, 0, 24, 0, 64, 192, 448, 960, 448, 2496, 8128, 16320, 32767, 65535, 65535, 262143, 524287]
theorem carrefourref02_Of.tab6 : rtab .any (opsOf Tryd.f17 6) = carrefourref02_Of.T6 := by kernel_rfl
theorem carrefourref02_Of.bits6 : waitsOk carrefourref02_Of.T6.2 carrefourref02_Of.B6 = true := by kernel_rfl
theorem carrefourref02_Of.calls (k : Nat) (a0 : Int) (a1 : Int) (r1 : Int) (r2 : Int) (r3 : Int) (w : World) (h : carrefourref02_Of.f k a0 a1 = some (r1, r2, r3)) :
    Calls Tryd.prog 17 #[.int .i64 a0, .int .i64 a1] w fun e w' => e = .returned (.tuple #[.agg #[.int .i64 r1, .int .i64 r2], .int .i64 r3]) ∧ Below w.heap.size w w' := by
  have hu23 := Tryd.underlying23
  have HB := Aside0.mk (Below.refl w.heap.size w)
  have H : (if a1 = 0 then (some (0, 0, 3)) else ((carrefourref01_Size.f a0).bind fun t273 => ((carrefourref01_Size.f a1).bind fun t274 => ((carrefourref02_gcd.f k t273 t274).bind fun t275 => (if t275 = 0 then (none) else (if a0 = 0 then ((carrefourref02_made.f k (IntKind.u64.wrap (Int.tdiv t273 t275)) (IntKind.u64.wrap (Int.tdiv t274 t275)) false).bind fun bt276 => (some (bt276.1, bt276.2.1, bt276.2.2))) else ((carrefourref02_made.f k (IntKind.u64.wrap (Int.tdiv t273 t275)) (IntKind.u64.wrap (Int.tdiv t274 t275)) ((decide (a0 < 0)) != (decide (a1 < 0)))).bind fun bt279 => (some (bt279.1, bt279.2.1, bt279.2.2))))))))) = some (r1, r2, r3) := h
  clear h
  by_cases c3 : a1 = 0
  · rw [if_pos c3] at H
    have c3b0 : (a1 == 0) = true := beq_iff_eq.mpr c3
    have c3b1 : (a1 != 0) = false := bne_eq_false_iff_eq.mpr c3
    clear c3
    simp only [Option.some.injEq, Prod.mk.injEq] at H
    obtain ⟨rfl, rfl, rfl⟩ := H
    go_enter Tryd.func17, Tryd.ntmps17
    go_wp2_with (first | ((with_reducible refine gd 4 rfl ?_); refine bx_ 4 23 #[.int .i64 0, .int .i64 0] rfl rfl ?_; intro gb272 hg w4 BK272 hb; have GE272 := bz HB hg; replace HB := bs HB hb; clear hb hg; have hcz5 := k2 BK272))
    refine bodyPost_ret (results_ct rfl _ _ gb272 23 #[.int .i64 0, .int .i64 0] (0, 0) _ rfl (br_ BK272) Tryd.underlying23 rfl (by kernel_rfl)) rfl ?_
    exact ⟨ae, bf HB⟩
  · rw [if_neg c3] at H
    have c3b0 : (a1 == 0) = false := beq_eq_false_iff_ne.mpr c3
    have c3b1 : (a1 != 0) = true := bne_iff_ne.mpr c3
    replace H := bi_ H; obtain ⟨t273, A6, H⟩ := H
    (try dsimp only at H)
    replace H := bi_ H; obtain ⟨t274, A7, H⟩ := H
    (try dsimp only at H)
    replace H := bi_ H; obtain ⟨t275, A8, H⟩ := H
    (try dsimp only at H)
    by_cases c9 : t275 = 0
    · rw [if_pos c9] at H
      exact absurd H (by simp)
    · rw [if_neg c9] at H
      have c9b0 : (t275 == 0) = false := beq_eq_false_iff_ne.mpr c9
      have c9b1 : (t275 != 0) = true := bne_iff_ne.mpr c9
      by_cases c10 : a0 = 0
      · rw [if_pos c10] at H
        have c10b0 : (a0 == 0) = true := beq_iff_eq.mpr c10
        have c10b1 : (a0 != 0) = false := bne_eq_false_iff_eq.mpr c10
        clear c10
        replace H := bi_ H; obtain ⟨⟨t276, t277, t278⟩, A11, H⟩ := H
        (try dsimp only at H)
        simp only [Option.some.injEq, Prod.mk.injEq] at H
        obtain ⟨rfl, rfl, rfl⟩ := H
        go_enter Tryd.func17, Tryd.ntmps17
        try go_wp2_with (first | ((with_reducible refine gd 4 rfl ?_); refine bx_ 4 23 #[.int .i64 0, .int .i64 0] rfl rfl ?_; intro gb272 hg w12 BK272 hb; have GE272 := bz HB hg; replace HB := bs HB hb; clear hb hg) | ((with_reducible refine gc 43 rfl ?_); refine gm_ (some 13) rfl rfl Tryd.func43 (carrefourref01_Size.calls _ _ _ A6.out) ag ?_; rintro w' ⟨nd, rfl⟩; (try (rw [drewN_self w12]; generalize hq_ : World.drewN w12 _ = w12; have n0_ : Aside0 (w12.heap[gb272]? = some (.cells #[.int .i64 0, .int .i64 0] 23 (0, 0))) := ⟨by rw [← hq_]; exact (bx BK272)⟩; have n1_ : Aside0 (Below w.heap.size w w12) := ⟨by rw [← hq_]; exact (bf HB)⟩; clear BK272 HB hq_; have BK272 := n0_; have HB := n1_; clear n0_ n1_))) | ((with_reducible refine gc 43 rfl ?_); refine gm_ (some 15) rfl rfl Tryd.func43 (carrefourref01_Size.calls _ _ _ A7.out) ag ?_; rintro w' ⟨nd, rfl⟩; (try (rw [drewN_self w12]; generalize hq_ : World.drewN w12 _ = w12; have n0_ : Aside0 (w12.heap[gb272]? = some (.cells #[.int .i64 0, .int .i64 0] 23 (0, 0))) := ⟨by rw [← hq_]; exact (bx BK272)⟩; have n1_ : Aside0 (Below w.heap.size w w12) := ⟨by rw [← hq_]; exact (bf HB)⟩; clear BK272 HB hq_; have BK272 := n0_; have HB := n1_; clear n0_ n1_))) | ((with_reducible refine gc 53 rfl ?_); refine gm_ (some 18) rfl rfl Tryd.func53 (carrefourref02_gcd.calls _ _ _ _ _ A8.out) ag ?_; rintro w' ⟨nd, rfl⟩; (try (rw [drewN_self w12]; generalize hq_ : World.drewN w12 _ = w12; have n0_ : Aside0 (w12.heap[gb272]? = some (.cells #[.int .i64 0, .int .i64 0] 23 (0, 0))) := ⟨by rw [← hq_]; exact (bx BK272)⟩; have n1_ : Aside0 (Below w.heap.size w w12) := ⟨by rw [← hq_]; exact (bf HB)⟩; clear BK272 HB hq_; have BK272 := n0_; have HB := n1_; clear n0_ n1_))))
        replace BK272 := Aside0.mk (blk_drew BK272.out)
        replace HB := Aside0.mk (below_drew1 HB.out)
        refine start_ (n := 20) (S := fun w' => True) (ds := []) (m_ 20 0) (by kernel_rfl) rfl rfl trivial (fun hHeld => ?_); refine with_tabW carrefourref02_Of.tab6 carrefourref02_Of.bits6 (fun HT_ HW_ => ?_)
        generalize w12.drew = w13 at BK272 HB hHeld ⊢
        refine pu_ 0 (some 19) (m_ 20 1) rfl rfl (ao HT_) ?_
        refine pu_ 1 (some 20) (m_ 20 3) rfl rfl (ao HT_) ?_
        refine pu_ 2 (some 21) (m_ 20 7) rfl rfl (ao HT_) ?_
        refine pu_ 3 (some 22) (m_ 20 15) rfl rfl (ao HT_) ?_
        refine pu_ 4 (some 23) (m_ 20 31) rfl rfl (ao HT_) ?_
        refine pu_ 5 (some 24) (m_ 20 63) rfl rfl (ao HT_) ?_
        refine pu_ 6 (some 25) (m_ 20 127) rfl rfl (ao HT_) ?_
        refine pu_ 7 (some 26) (m_ 20 255) rfl rfl (ao HT_) ?_
        refine pu_ 8 (some 27) (m_ 20 511) rfl rfl (ao HT_) ?_
        refine pv_ 9 (some 28) (m_ 20 1023) rfl rfl (ao HT_) ?_
        refine pv_ 10 (some 29) (m_ 20 2047) rfl rfl (ao HT_) ?_
        refine pv_ 11 (some 30) (m_ 20 4095) rfl rfl (ao HT_) ?_
        refine pv_ 12 (some 31) (m_ 20 8191) rfl rfl (ao HT_) ?_
        refine pv_ 13 (some 32) (m_ 20 16383) rfl rfl (ao HT_) ?_
        refine pu_ 14 (some 33) (m_ 20 32767) rfl rfl (ao HT_) ?_
        refine o1_ 15 (some 34) (m_ 20 65535) rfl rfl (oo HT_) (fun K hK => ?_)
        refine gs_ rfl Tryd.func54 (carrefourref02_made.calls _ (IntKind.u64.wrap (Int.tdiv t273 t275)) (IntKind.u64.wrap (Int.tdiv t274 t275)) _ _ _ _ _ A11.out) ag ?_
        intro w14 hb
        replace BK272 := bb BK272 hb
        replace HB := bs HB hb
        (try clear hb)
        refine hK.out _ _ trivial (fun hHeld => ?_)
        clear hK K
        refine nr_ (some 34) ?_
        refine pu_ 16 (some 35) (m_ 20 131071) rfl rfl (ao HT_) ?_
        refine pu_ 17 (some 36) (m_ 20 262143) rfl rfl (ao HT_) ?_
        refine o1_ 18 (none) (m_ 20 524287) rfl rfl (oo HT_) (fun K hK => ?_)
        have hs15 : c_ w14 gb272 0 (.int .i64 0) := ct BK272 0
        have hfs15 := blk_frozen BK272.out 0
        have hs16 : c_ w14 gb272 1 (.int .i64 0) := ct BK272 1
        have hfs16 := blk_frozen BK272.out 1
        refine skip_ (w1 := ?_) (by rfl) rfl ?_ ?_
        rotate_left
        · go_simp
          rfl
        refine hK.out _ _ trivial (fun hHeld => ?_)
        clear hK K
        refine pu_ 19 (some 5) (m_ 20 1048575) rfl rfl (ao HT_) ?_
        refine done_ (done_of HT_.out (by kernel_rfl)) ?_
        try go_wp2
        refine bodyPost_ret (results_ct rfl _ _ gb272 23 #[.int .i64 t276, .int .i64 t277] (0, 0) _ rfl (br_ BK272) Tryd.underlying23 rfl (by kernel_rfl)) rfl ?_
        exact ⟨ae, bf HB⟩
      · rw [if_neg c10] at H
        have c10b0 : (a0 == 0) = false := beq_eq_false_iff_ne.mpr c10
        have c10b1 : (a0 != 0) = true := bne_iff_ne.mpr c10
        replace H := bi_ H; obtain ⟨⟨t279, t280, t281⟩, A17, H⟩ := H
        (try dsimp only at H)
        simp only [Option.some.injEq, Prod.mk.injEq] at H
        obtain ⟨rfl, rfl, rfl⟩ := H
        go_enter Tryd.func17, Tryd.ntmps17
        try go_wp2_with (first | ((with_reducible refine gd 4 rfl ?_); refine bx_ 4 23 #[.int .i64 0, .int .i64 0] rfl rfl ?_; intro gb272 hg w18 BK272 hb; have GE272 := bz HB hg; replace HB := bs HB hb; clear hb hg) | ((with_reducible refine gc 43 rfl ?_); refine gm_ (some 13) rfl rfl Tryd.func43 (carrefourref01_Size.calls _ _ _ A6.out) ag ?_; rintro w' ⟨nd, rfl⟩; (try (rw [drewN_self w18]; generalize hq_ : World.drewN w18 _ = w18; have n0_ : Aside0 (w18.heap[gb272]? = some (.cells #[.int .i64 0, .int .i64 0] 23 (0, 0))) := ⟨by rw [← hq_]; exact (bx BK272)⟩; have n1_ : Aside0 (Below w.heap.size w w18) := ⟨by rw [← hq_]; exact (bf HB)⟩; clear BK272 HB hq_; have BK272 := n0_; have HB := n1_; clear n0_ n1_))) | ((with_reducible refine gc 43 rfl ?_); refine gm_ (some 15) rfl rfl Tryd.func43 (carrefourref01_Size.calls _ _ _ A7.out) ag ?_; rintro w' ⟨nd, rfl⟩; (try (rw [drewN_self w18]; generalize hq_ : World.drewN w18 _ = w18; have n0_ : Aside0 (w18.heap[gb272]? = some (.cells #[.int .i64 0, .int .i64 0] 23 (0, 0))) := ⟨by rw [← hq_]; exact (bx BK272)⟩; have n1_ : Aside0 (Below w.heap.size w w18) := ⟨by rw [← hq_]; exact (bf HB)⟩; clear BK272 HB hq_; have BK272 := n0_; have HB := n1_; clear n0_ n1_))) | ((with_reducible refine gc 53 rfl ?_); refine gm_ (some 18) rfl rfl Tryd.func53 (carrefourref02_gcd.calls _ _ _ _ _ A8.out) ag ?_; rintro w' ⟨nd, rfl⟩; (try (rw [drewN_self w18]; generalize hq_ : World.drewN w18 _ = w18; have n0_ : Aside0 (w18.heap[gb272]? = some (.cells #[.int .i64 0, .int .i64 0] 23 (0, 0))) := ⟨by rw [← hq_]; exact (bx BK272)⟩; have n1_ : Aside0 (Below w.heap.size w w18) := ⟨by rw [← hq_]; exact (bf HB)⟩; clear BK272 HB hq_; have BK272 := n0_; have HB := n1_; clear n0_ n1_))))
        replace BK272 := Aside0.mk (blk_drew BK272.out)
        replace HB := Aside0.mk (below_drew1 HB.out)
        refine start_ (n := 20) (S := fun w' => True) (ds := []) (m_ 20 0) (by kernel_rfl) rfl rfl trivial (fun hHeld => ?_); refine with_tabW carrefourref02_Of.tab6 carrefourref02_Of.bits6 (fun HT_ HW_ => ?_)
        generalize w18.drew = w19 at BK272 HB hHeld ⊢
        refine pu_ 0 (some 19) (m_ 20 1) rfl rfl (ao HT_) ?_
        refine pu_ 1 (some 20) (m_ 20 3) rfl rfl (ao HT_) ?_
        refine pu_ 2 (some 21) (m_ 20 7) rfl rfl (ao HT_) ?_
        refine pu_ 3 (some 22) (m_ 20 15) rfl rfl (ao HT_) ?_
        refine pu_ 4 (some 23) (m_ 20 31) rfl rfl (ao HT_) ?_
        refine pu_ 5 (some 24) (m_ 20 63) rfl rfl (ao HT_) ?_
        refine pu_ 6 (some 25) (m_ 20 127) rfl rfl (ao HT_) ?_
        refine pu_ 7 (some 26) (m_ 20 255) rfl rfl (ao HT_) ?_
        refine pu_ 8 (some 27) (m_ 20 511) rfl rfl (ao HT_) ?_
        refine pu_ 9 (some 28) (m_ 20 1023) rfl rfl (ao HT_) ?_
        refine pu_ 10 (some 29) (m_ 20 2047) rfl rfl (ao HT_) ?_
        refine pu_ 11 (some 30) (m_ 20 4095) rfl rfl (ao HT_) ?_
        refine pu_ 12 (some 31) (m_ 20 8191) rfl rfl (ao HT_) ?_
        refine pu_ 13 (some 32) (m_ 20 16383) rfl rfl (ao HT_) ?_
        refine pu_ 14 (some 33) (m_ 20 32767) rfl rfl (ao HT_) ?_
        refine o1_ 15 (some 34) (m_ 20 65535) rfl rfl (oo HT_) (fun K hK => ?_)
        refine gs_ rfl Tryd.func54 (carrefourref02_made.calls _ (IntKind.u64.wrap (Int.tdiv t273 t275)) (IntKind.u64.wrap (Int.tdiv t274 t275)) ((decide (a0 < 0)) != (decide (a1 < 0))) _ _ _ _ A17.out) ag ?_
        intro w20 hb
        replace BK272 := bb BK272 hb
        replace HB := bs HB hb
        (try clear hb)
        refine hK.out _ _ trivial (fun hHeld => ?_)
        clear hK K
        refine nr_ (some 34) ?_
        refine pu_ 16 (some 35) (m_ 20 131071) rfl rfl (ao HT_) ?_
        refine pu_ 17 (some 36) (m_ 20 262143) rfl rfl (ao HT_) ?_
        refine o1_ 18 (none) (m_ 20 524287) rfl rfl (oo HT_) (fun K hK => ?_)
        have hs21 : c_ w20 gb272 0 (.int .i64 0) := ct BK272 0
        have hfs21 := blk_frozen BK272.out 0
        have hs22 : c_ w20 gb272 1 (.int .i64 0) := ct BK272 1
        have hfs22 := blk_frozen BK272.out 1
        refine skip_ (w1 := ?_) (by rfl) rfl ?_ ?_
        rotate_left
        · go_simp
          rfl
        refine hK.out _ _ trivial (fun hHeld => ?_)
        clear hK K
        refine pu_ 19 (some 5) (m_ 20 1048575) rfl rfl (ao HT_) ?_
        refine done_ (done_of HT_.out (by kernel_rfl)) ?_
        try go_wp2
        refine bodyPost_ret (results_ct rfl _ _ gb272 23 #[.int .i64 t279, .int .i64 t280] (0, 0) _ rfl (br_ BK272) Tryd.underlying23 rfl (by kernel_rfl)) rfl ?_
        exact ⟨ae, bf HB⟩

/-! ### carrefourref02_Right: function 19 -/
theorem carrefourref02_Right.calls (k : Nat) (a0_0 : Int) (a0_1 : Int) (r : Bool) (w : World) (h : carrefourref02_Right.f k a0_0 a0_1 = some r) :
    Calls Tryd.prog 19 #[.agg #[.int .i64 a0_0, .int .i64 a0_1]] w fun e w' => e = .returned (.bool r) ∧ Below w.heap.size w w' := by
  have hu23 := Tryd.underlying23
  have HB := Aside0.mk (Below.refl w.heap.size w)
  have H : (if a0_1 ≥ 1 then ((carrefourref01_Size.f a0_0).bind fun t283 => ((carrefourref02_gcd.f k t283 (IntKind.u64.wrap (a0_1))).bind fun t284 => (some (t284 == 1)))) else (some false)) = some r := h
  clear h
  by_cases c2 : a0_1 ≥ 1
  · rw [if_pos c2] at H
    have c2b0 : decide (1 ≤ a0_1) = true := decide_eq_true c2
    clear c2
    replace H := bi_ H; obtain ⟨t283, A3, H⟩ := H
    (try dsimp only at H)
    replace H := bi_ H; obtain ⟨t284, A4, H⟩ := H
    (try dsimp only at H)
    obtain rfl := Option.some.inj H
    go_enter Tryd.func19, Tryd.ntmps19
    go_wp2_with (first | ((with_reducible refine gd 1 rfl ?_); refine bx_ 1 23 #[.int .i64 a0_0, .int .i64 a0_1] rfl rfl ?_; intro gb282 hg w5 BK282 hb; have GE282 := bz HB hg; replace HB := bs HB hb; clear hb hg; have hcz6 := k2 BK282) | (go_at_call 43; (with_reducible refine (carrefourref01_Size.calls _ _ _ A3.out).mono ?_); rintro e w' ⟨rfl, ⟨nd, rfl⟩⟩; (try first | exact ⟨rfl, _, World.drewN_drewN _ _ _⟩ | exact ⟨rfl, _, Eq.trans (World.drewN_drewN _ _ _) (congrArg (World.drewN _) (Nat.add_assoc _ _ _))⟩)) | (go_at_call 53; (with_reducible refine (carrefourref02_gcd.calls _ _ (IntKind.u64.wrap (a0_1)) _ _ A4.out).mono ?_); rintro e w' ⟨rfl, ⟨nd, rfl⟩⟩; (try first | exact ⟨rfl, _, World.drewN_drewN _ _ _⟩ | exact ⟨rfl, _, Eq.trans (World.drewN_drewN _ _ _) (congrArg (World.drewN _) (Nat.add_assoc _ _ _))⟩)))
    repeat (go_quiet (first | ((with_reducible refine gd 1 rfl ?_); refine bx_ 1 23 #[.int .i64 a0_0, .int .i64 a0_1] rfl rfl ?_; intro gb282 hg w5 BK282 hb; have GE282 := bz HB hg; replace HB := bs HB hb; clear hb hg; have hcz6 := k2 BK282) | (go_at_call 43; (with_reducible refine (carrefourref01_Size.calls _ _ _ A3.out).mono ?_); rintro e w' ⟨rfl, ⟨nd, rfl⟩⟩; (try first | exact ⟨rfl, _, World.drewN_drewN _ _ _⟩ | exact ⟨rfl, _, Eq.trans (World.drewN_drewN _ _ _) (congrArg (World.drewN _) (Nat.add_assoc _ _ _))⟩)) | (go_at_call 53; (with_reducible refine (carrefourref02_gcd.calls _ _ (IntKind.u64.wrap (a0_1)) _ _ A4.out).mono ?_); rintro e w' ⟨rfl, ⟨nd, rfl⟩⟩; (try first | exact ⟨rfl, _, World.drewN_drewN _ _ _⟩ | exact ⟨rfl, _, Eq.trans (World.drewN_drewN _ _ _) (congrArg (World.drewN _) (Nat.add_assoc _ _ _))⟩))); try go_wp2_with (first | ((with_reducible refine gd 1 rfl ?_); refine bx_ 1 23 #[.int .i64 a0_0, .int .i64 a0_1] rfl rfl ?_; intro gb282 hg w5 BK282 hb; have GE282 := bz HB hg; replace HB := bs HB hb; clear hb hg; have hcz6 := k2 BK282) | (go_at_call 43; (with_reducible refine (carrefourref01_Size.calls _ _ _ A3.out).mono ?_); rintro e w' ⟨rfl, ⟨nd, rfl⟩⟩; (try first | exact ⟨rfl, _, World.drewN_drewN _ _ _⟩ | exact ⟨rfl, _, Eq.trans (World.drewN_drewN _ _ _) (congrArg (World.drewN _) (Nat.add_assoc _ _ _))⟩)) | (go_at_call 53; (with_reducible refine (carrefourref02_gcd.calls _ _ (IntKind.u64.wrap (a0_1)) _ _ A4.out).mono ?_); rintro e w' ⟨rfl, ⟨nd, rfl⟩⟩; (try first | exact ⟨rfl, _, World.drewN_drewN _ _ _⟩ | exact ⟨rfl, _, Eq.trans (World.drewN_drewN _ _ _) (congrArg (World.drewN _) (Nat.add_assoc _ _ _))⟩))))
    go_ret
    exact ⟨ae, bf HB⟩
  · rw [if_neg c2] at H
    have c2b0 : decide (1 ≤ a0_1) = false := decide_eq_false c2
    clear c2
    obtain rfl := Option.some.inj H
    go_enter Tryd.func19, Tryd.ntmps19
    go_wp2_with (first | ((with_reducible refine gd 1 rfl ?_); refine bx_ 1 23 #[.int .i64 a0_0, .int .i64 a0_1] rfl rfl ?_; intro gb282 hg w7 BK282 hb; have GE282 := bz HB hg; replace HB := bs HB hb; clear hb hg; have hcz8 := k2 BK282))
    repeat (go_quiet (first | ((with_reducible refine gd 1 rfl ?_); refine bx_ 1 23 #[.int .i64 a0_0, .int .i64 a0_1] rfl rfl ?_; intro gb282 hg w7 BK282 hb; have GE282 := bz HB hg; replace HB := bs HB hb; clear hb hg; have hcz8 := k2 BK282)); try go_wp2_with (first | ((with_reducible refine gd 1 rfl ?_); refine bx_ 1 23 #[.int .i64 a0_0, .int .i64 a0_1] rfl rfl ?_; intro gb282 hg w7 BK282 hb; have GE282 := bz HB hg; replace HB := bs HB hb; clear hb hg; have hcz8 := k2 BK282)))
    go_ret
    exact ⟨ae, bf HB⟩

/-! ### carrefourref02_Norm: function 39 -/
theorem carrefourref02_Norm.calls (k : Nat) (a0_0 : Int) (a0_1 : Int) (r1 : Int) (r2 : Int) (w : World) (h : carrefourref02_Norm.f k a0_0 a0_1 = some (r1, r2)) :
    Calls Tryd.prog 39 #[.agg #[.int .i64 a0_0, .int .i64 a0_1]] w fun e w' => e = .returned (.agg #[.int .i64 r1, .int .i64 r2]) ∧ Below w.heap.size w w' := by
  have hu23 := Tryd.underlying23
  have HB := Aside0.mk (Below.refl w.heap.size w)
  have H : ((carrefourref02_Right.f k a0_0 a0_1).bind fun t287 => (if t287 = true then (some (a0_0, a0_1)) else (some (0, 1)))) = some (r1, r2) := h
  clear h
  replace H := bi_ H; obtain ⟨t287, A2, H⟩ := H
  (try dsimp only at H)
  by_cases c3 : t287 = true
  · subst c3
    have H1 : (some (a0_0, a0_1)) = some (r1, r2) := by rw [if_pos rfl] at H; exact H
    clear H
    have H := H1
    clear H1
    simp only [Option.some.injEq, Prod.mk.injEq] at H
    obtain ⟨rfl, rfl⟩ := H
    go_enter Tryd.func39, Tryd.ntmps39
    go_wp2_with (first | ((with_reducible refine gd 1 rfl ?_); refine bx_ 1 23 #[.int .i64 a0_0, .int .i64 a0_1] rfl rfl ?_; intro gb285 hg w4 BK285 hb; have GE285 := bz HB hg; replace HB := bs HB hb; clear hb hg) | ((with_reducible refine gd 2 rfl ?_); refine bx_ 2 23 #[.int .i64 0, .int .i64 0] rfl rfl ?_; intro gb286 hg w5 BK286 hb; have GE286 := bz HB hg; have ⟨NB285_286, NB286_285⟩ := nb BK285 hg; replace BK285 := bb BK285 hb; replace HB := bs HB hb; clear hb hg; have hnb6 := nn NB285_286; have hcz7 := k2 BK285) | ((with_reducible refine gc 19 rfl ?_); refine gm_ (some 4) rfl rfl Tryd.func19 (carrefourref02_Right.calls _ _ _ _ _ A2.out) ag ?_; intro w8 hb; replace BK285 := bb BK285 hb; replace BK286 := bb BK286 hb; replace HB := bs HB hb; (try clear hb); have hcz9 := k2 BK285; have hcz10 := k2 BK286))
    refine bodyPost_ret (results_cell_row rfl _ _ gb286 23 #[.int .i64 a0_0, .int .i64 a0_1] (0, 0) _ rfl (br_ BK286) Tryd.underlying23 rfl (by kernel_rfl)) rfl ?_
    exact ⟨ae, bf HB⟩
  · replace c3 := Bool.eq_false_iff.mpr c3
    subst c3
    have H1 : (some (0, 1)) = some (r1, r2) := by rw [if_neg (show ¬ (false = true) by decide)] at H; exact H
    clear H
    have H := H1
    clear H1
    simp only [Option.some.injEq, Prod.mk.injEq] at H
    obtain ⟨rfl, rfl⟩ := H
    go_enter Tryd.func39, Tryd.ntmps39
    go_wp2_with (first | ((with_reducible refine gd 1 rfl ?_); refine bx_ 1 23 #[.int .i64 a0_0, .int .i64 a0_1] rfl rfl ?_; intro gb285 hg w11 BK285 hb; have GE285 := bz HB hg; replace HB := bs HB hb; clear hb hg) | ((with_reducible refine gd 2 rfl ?_); refine bx_ 2 23 #[.int .i64 0, .int .i64 0] rfl rfl ?_; intro gb286 hg w12 BK286 hb; have GE286 := bz HB hg; have ⟨NB285_286, NB286_285⟩ := nb BK285 hg; replace BK285 := bb BK285 hb; replace HB := bs HB hb; clear hb hg; have hnb13 := nn NB285_286; have hcz14 := k2 BK285) | ((with_reducible refine gc 19 rfl ?_); refine gm_ (some 4) rfl rfl Tryd.func19 (carrefourref02_Right.calls _ _ _ _ _ A2.out) ag ?_; intro w15 hb; replace BK286 := bb BK286 hb; replace HB := bs HB hb; (try clear hb); have hcz16 := k2 BK286))
    refine bodyPost_ret (results_cell_row rfl _ _ gb286 23 #[.int .i64 0, .int .i64 1] (0, 0) _ rfl (br_ BK286) Tryd.underlying23 rfl (by kernel_rfl)) rfl ?_
    exact ⟨ae, bf HB⟩

end Go.Proofs.YtjgnaccamakpdaaDoor.X
