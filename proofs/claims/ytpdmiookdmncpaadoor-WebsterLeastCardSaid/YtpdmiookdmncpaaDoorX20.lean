/- The walks of functions of the program, laid by a program of this session over the translation: each '.calls' says that the Go function comes to what its Lean function tells. Conditions: as each theorem's head says. -/
import Derived.Test.YtpdmiookdmncpaaDoorXD
import Derived.Test.YtpdmiookdmncpaaDoorX0
import Derived.Test.YtpdmiookdmncpaaDoorX9
import Derived.Test.YtpdmiookdmncpaaDoorX10
import Derived.Test.YtpdmiookdmncpaaDoorX12
import Derived.Test.YtpdmiookdmncpaaDoorX18
import Derived.Test.YtpdmiookdmncpaaDoorX19
namespace Go.Proofs.YtpdmiookdmncpaaDoor.X
open Go.RowKit Go.Proofs.YtpdmiookdmncpaaDoorW.PrintWords Go.Proofs.YtpdmiookdmncpaaDoorW.PrintLast Go.Proofs.YtpdmiookdmncpaaDoorW.PrintMore
attribute [local go_sem] max2_int min2_int max_two min_two max_three min_three max_four min_four   -- for this text's walks alone
set_option linter.unusedVariables false
set_option linter.unusedSimpArgs false

/-! ### carrefourlaw12_WebsterLeast: function 5 -/
set_option maxHeartbeats 8000000 in
set_option maxRecDepth 100000 in
theorem carrefourlaw12_WebsterLeast.calls (k : Nat) (a0 : Int) (a1_0 : Int) (a1_1 : Int) (r : Bool) (w : World) (h : carrefourlaw12_WebsterLeast.f k a0 a1_0 a1_1 = some r) (hT : TabOK w) :
    Calls Tryd.prog 5 #[.int .i64 a0, .agg #[.int .i64 a1_0, .int .i64 a1_1]] w fun e w' => e = .returned (.bool r) ∧ Below w.heap.size w w' := by
  have GT := Aside0.mk hT
  clear hT
  have hu23 := Tryd.underlying23
  have HB := Aside0.mk (Below.refl w.heap.size w)
  have H : ((webster_Cycle.f k a0 a1_0 a1_1).bind fun bt670 => (if bt670.2.2 = 0 then (carrefourlaw12_WebsterLeast.j0 k a0 bt670.1 bt670.2.2 (!bt670.2.1) a1_0 a1_1) else (carrefourlaw12_WebsterLeast.j0 k a0 bt670.1 bt670.2.2 true a1_0 a1_1))) = some r := h
  clear h
  replace H := bi_ H; obtain ⟨⟨t670, t671, t672⟩, A3, H⟩ := H
  (try dsimp only at H)
  have HC4 := Aside0.mk H
  clear H
  go_enter Tryd.func5, Tryd.ntmps5
  go_upto_region 2 with (first | ((with_reducible refine gd 3 rfl ?_); refine bx_ 3 23 #[.int .i64 a1_0, .int .i64 a1_1] rfl rfl ?_; intro gb669 hg w5 BK669 hb; have GE669 := bz HB hg; replace HB := bs HB hb; clear hb hg; have hcz6 := k2 BK669) | ((with_reducible refine gc 10 rfl ?_); refine gl_ (some 19) rfl rfl Tryd.func10 ((webster_Cycle.calls _ _ _ _ _ _ _ _ A3.out ?hT).mono ?_) ag; (case hT => first | exact tb GT.out HB | exact tb0 GT.out); rintro e w7 ⟨rfl, hb⟩; refine ⟨_, rfl, ?_⟩; replace BK669 := bb BK669 hb; replace HB := bs HB hb; (try clear hb)))
  (try simp only [Act.put, si, s0, s1])
  go_cut [28] (fun v28 wc => ∃ (kq : Nat) (x28_3 : Bool), v28 = .bool x28_3 ∧ Aside0 (carrefourlaw12_WebsterLeast.j0 kq a0 t670 t672 x28_3 a1_0 a1_1 = some r) ∧ Aside0 (kq ≤ k) ∧ Aside0 (wc.heap[gb669]? = some (.cells #[.int .i64 a1_0, .int .i64 a1_1] 23 (0, 0))) ∧ Aside0 (Below w.heap.size w wc))
  case first =>
    have H := HC4.out
    clear HC4
    by_cases c8 : t672 = 0
    · rw [if_pos c8] at H
      have c8b0 : (t672 == 0) = true := beq_iff_eq.mpr c8
      have c8b1 : (t672 != 0) = false := bne_eq_false_iff_eq.mpr c8
      clear c8
      (first | rw [c8b0] | (simp only [i64_w, i32_w]; rw [c8b0]) | skip)
      have H' := Aside0.mk H
      clear H
      go_wp2
      go_meet
      case rel => exact ⟨_, (!t671), (aq), H', ⟨by first | omega | exact Nat.le_refl _⟩, bu_ BK669, ⟨bf HB⟩⟩
    · rw [if_neg c8] at H
      have c8b0 : (t672 == 0) = false := beq_eq_false_iff_ne.mpr c8
      have c8b1 : (t672 != 0) = true := bne_iff_ne.mpr c8
      (first | rw [c8b0] | (simp only [i64_w, i32_w]; rw [c8b0]) | skip)
      have H' := Aside0.mk H
      clear H
      go_wp2
      go_meet
      case rel => exact ⟨_, (true), (aq), H', ⟨by first | omega | exact Nat.le_refl _⟩, bu_ BK669, ⟨bf HB⟩⟩
  case rest =>
    clear HC4
    try clear c1
    try clear p2
    try clear c5
    try clear c8
    try clear c8b0
    try clear c8b1
    try clear hcz6
    obtain ⟨kq, x28_3, rfl, HA, HJ3, BK669, HB⟩ := hcut
    cases kq with
    | zero => exact absurd HA.out (by simp [carrefourlaw12_WebsterLeast.j0])
    | succ kj3 =>
      have H := HA.out
      clear HA
      simp only [carrefourlaw12_WebsterLeast.j0] at H
      by_cases c9 : x28_3 = true
      · subst c9
        have H1 : (if t672 = 0 then (if a1_0 ≥ a1_1 then (if t670 = 0 then ((carrefourlaw12_awake.f kj3).bind fun t673 => (some t673)) else (some false)) else (some false)) else (if t670 = 0 then ((carrefourlaw12_awake.f kj3).bind fun t674 => (some t674)) else (some false))) = some r := by rw [if_pos rfl] at H; exact H
        clear H
        have H := H1
        clear H1
        by_cases c10 : t672 = 0
        · rw [if_pos c10] at H
          have c10b0 : (t672 == 0) = true := beq_iff_eq.mpr c10
          have c10b1 : (t672 != 0) = false := bne_eq_false_iff_eq.mpr c10
          clear c10
          by_cases c11 : a1_0 ≥ a1_1
          · rw [if_pos c11] at H
            have c11b0 : decide (a1_1 ≤ a1_0) = true := decide_eq_true c11
            clear c11
            by_cases c12 : t670 = 0
            · rw [if_pos c12] at H
              have c12b0 : (t670 == 0) = true := beq_iff_eq.mpr c12
              have c12b1 : (t670 != 0) = false := bne_eq_false_iff_eq.mpr c12
              clear c12
              replace H := bi_ H; obtain ⟨t673, A13, H⟩ := H
              (try dsimp only at H)
              obtain rfl := Option.some.inj H
              have hcz14 := k2 BK669
              go_wp2_with (first | (go_at_call 12; (with_reducible refine (carrefourlaw12_awake.calls kj3 _ _ A13.out ?hT).mono ?_); (case hT => first | exact tb GT.out HB | exact tb0 GT.out); rintro e w15 ⟨rfl, hb⟩; replace BK669 := bb BK669 hb; replace HB := bs HB hb; (try clear hb)))
              go_ret
              exact ⟨by first | rfl | (simp [errW_none, errW_some] <;> rfl) | (simp [*, errW_none, errW_some] <;> rfl), bf HB⟩
            · rw [if_neg c12] at H
              have c12b0 : (t670 == 0) = false := beq_eq_false_iff_ne.mpr c12
              have c12b1 : (t670 != 0) = true := bne_iff_ne.mpr c12
              obtain rfl := Option.some.inj H
              have hcz16 := k2 BK669
              go_wp2
              go_ret
              exact ⟨by first | rfl | (simp [errW_none, errW_some] <;> rfl) | (simp [*, errW_none, errW_some] <;> rfl), bf HB⟩
          · rw [if_neg c11] at H
            have c11b0 : decide (a1_1 ≤ a1_0) = false := decide_eq_false c11
            clear c11
            obtain rfl := Option.some.inj H
            have hcz17 := k2 BK669
            go_wp2
            go_ret
            exact ⟨by first | rfl | (simp [errW_none, errW_some] <;> rfl) | (simp [*, errW_none, errW_some] <;> rfl), bf HB⟩
        · rw [if_neg c10] at H
          have c10b0 : (t672 == 0) = false := beq_eq_false_iff_ne.mpr c10
          have c10b1 : (t672 != 0) = true := bne_iff_ne.mpr c10
          by_cases c18 : t670 = 0
          · rw [if_pos c18] at H
            have c18b0 : (t670 == 0) = true := beq_iff_eq.mpr c18
            have c18b1 : (t670 != 0) = false := bne_eq_false_iff_eq.mpr c18
            clear c18
            replace H := bi_ H; obtain ⟨t674, A19, H⟩ := H
            (try dsimp only at H)
            obtain rfl := Option.some.inj H
            go_wp2_with (first | (go_at_call 12; (with_reducible refine (carrefourlaw12_awake.calls kj3 _ _ A19.out ?hT).mono ?_); (case hT => first | exact tb GT.out HB | exact tb0 GT.out); rintro e w20 ⟨rfl, hb⟩; replace BK669 := bb BK669 hb; replace HB := bs HB hb; (try clear hb)))
            go_ret
            exact ⟨by first | rfl | (simp [errW_none, errW_some] <;> rfl) | (simp [*, errW_none, errW_some] <;> rfl), bf HB⟩
          · rw [if_neg c18] at H
            have c18b0 : (t670 == 0) = false := beq_eq_false_iff_ne.mpr c18
            have c18b1 : (t670 != 0) = true := bne_iff_ne.mpr c18
            obtain rfl := Option.some.inj H
            go_wp2
            go_ret
            exact ⟨by first | rfl | (simp [errW_none, errW_some] <;> rfl) | (simp [*, errW_none, errW_some] <;> rfl), bf HB⟩
      · replace c9 := Bool.eq_false_iff.mpr c9
        subst c9
        have H1 : ((carrefourref02_Of.f kj3 (wrap64 ((wrap64 (3 * a0)) + 100)) 2).bind fun bt675 => ((carrefourref02_Of.f kj3 (wrap64 (a1_1 - a1_0)) a1_1).bind fun bt679 => ((carrefourref02_Mul.f kj3 bt679.1 bt679.2.1 t670 1).bind fun bt683 => ((carrefourref02_Mul.f kj3 bt679.1 bt679.2.1 (wrap64 (t670 - 1)) 1).bind fun bt687 => (if bt679.2.2 = 0 then (if bt683.2.2 = 0 then ((carrefourref02_Cmp.f kj3 bt683.1 bt683.2.1 bt675.1 bt675.2.1).bind fun t691 => (if t691 < 0 then (some false) else (if bt687.2.2 = 0 then ((carrefourref02_Cmp.f kj3 bt687.1 bt687.2.1 bt675.1 bt675.2.1).bind fun t692 => (if t692 ≥ 0 then (some false) else ((carrefourlaw12_awake.f kj3).bind fun t693 => (some t693)))) else ((carrefourlaw12_awake.f kj3).bind fun t694 => (some t694))))) else (if bt687.2.2 = 0 then ((carrefourref02_Cmp.f kj3 bt687.1 bt687.2.1 bt675.1 bt675.2.1).bind fun t695 => (if t695 ≥ 0 then (some false) else ((carrefourlaw12_awake.f kj3).bind fun t696 => (some t696)))) else ((carrefourlaw12_awake.f kj3).bind fun t697 => (some t697)))) else (some false)))))) = some r := by rw [if_neg (show ¬ (false = true) by decide)] at H; exact H
        clear H
        have H := H1
        clear H1
        replace H := bi_ H; obtain ⟨⟨t675, t676, t677⟩, A21, H⟩ := H
        (try dsimp only at H)
        replace H := bi_ H; obtain ⟨⟨t679, t680, t681⟩, A22, H⟩ := H
        (try dsimp only at H)
        replace H := bi_ H; obtain ⟨⟨t683, t684, t685⟩, A23, H⟩ := H
        (try dsimp only at H)
        replace H := bi_ H; obtain ⟨⟨t687, t688, t689⟩, A24, H⟩ := H
        (try dsimp only at H)
        by_cases c25 : t681 = 0
        · rw [if_pos c25] at H
          have c25b0 : (t681 == 0) = true := beq_iff_eq.mpr c25
          have c25b1 : (t681 != 0) = false := bne_eq_false_iff_eq.mpr c25
          clear c25
          by_cases c26 : t685 = 0
          · rw [if_pos c26] at H
            have c26b0 : (t685 == 0) = true := beq_iff_eq.mpr c26
            have c26b1 : (t685 != 0) = false := bne_eq_false_iff_eq.mpr c26
            clear c26
            replace H := bi_ H; obtain ⟨t691, A27, H⟩ := H
            (try dsimp only at H)
            by_cases c28 : t691 < 0
            · rw [if_pos c28] at H
              have c28b0 : decide (t691 < 0) = true := decide_eq_true c28
              clear c28
              obtain rfl := Option.some.inj H
              go_wp2_with (first | ((with_reducible refine gc 17 rfl ?_); refine gl_ (some 49) rfl rfl Tryd.func17 ((carrefourref02_Of.calls kj3 (wrap64 ((wrap64 (3 * a0)) + 100)) _ _ _ _ _ A21.out).mono ?_) ag; rintro e w29 ⟨rfl, hb⟩; refine ⟨_, rfl, ?_⟩; replace BK669 := bb BK669 hb; replace HB := bs HB hb; (try clear hb)) | ((with_reducible refine gd 8 rfl ?_); refine bx_ 8 23 #[.int .i64 0, .int .i64 0] rfl rfl ?_; intro gb678 hg w30 BK678 hb; have GE678 := bz HB hg; have ⟨NB669_678, NB678_669⟩ := nb BK669 hg; replace BK669 := bb BK669 hb; replace HB := bs HB hb; clear hb hg; have hnb31 := nn NB678_669; have hcz32 := k2 BK678; have hcz33 := k2 BK669) | ((with_reducible refine gc 17 rfl ?_); refine gl_ (some 60) rfl rfl Tryd.func17 ((carrefourref02_Of.calls kj3 (wrap64 (a1_1 - a1_0)) _ _ _ _ _ A22.out).mono ?_) ag; rintro e w34 ⟨rfl, hb⟩; refine ⟨_, rfl, ?_⟩; replace BK669 := bb BK669 hb; replace BK678 := bp_ #[.int .i64 t675, .int .i64 t676] BK678 hb; replace HB := bs HB hb; (try clear hb)) | ((with_reducible refine gd 10 rfl ?_); refine bx_ 10 23 #[.int .i64 0, .int .i64 0] rfl rfl ?_; intro gb682 hg w35 BK682 hb; have GE682 := bz HB hg; have ⟨NB669_682, NB682_669⟩ := nb BK669 hg; have ⟨NB678_682, NB682_678⟩ := nb BK678 hg; replace BK669 := bb BK669 hb; replace BK678 := bb BK678 hb; replace HB := bs HB hb; clear hb hg; have hnb36 := nn NB682_669; have hnb37 := nn NB682_678; have hcz38 := k2 BK682) | ((with_reducible refine gc 18 rfl ?_); refine gl_ (some 67) rfl rfl Tryd.func18 ((carrefourref02_Mul.calls kj3 _ _ _ _ _ _ _ _ A23.out).mono ?_) ag; rintro e w39 ⟨rfl, hb⟩; refine ⟨_, rfl, ?_⟩; replace BK669 := bb BK669 hb; replace BK678 := bb BK678 hb; replace BK682 := bp_ #[.int .i64 t679, .int .i64 t680] BK682 hb; replace HB := bs HB hb; (try clear hb)) | ((with_reducible refine gd 12 rfl ?_); refine bx_ 12 23 #[.int .i64 0, .int .i64 0] rfl rfl ?_; intro gb686 hg w40 BK686 hb; have GE686 := bz HB hg; have ⟨NB669_686, NB686_669⟩ := nb BK669 hg; have ⟨NB678_686, NB686_678⟩ := nb BK678 hg; have ⟨NB682_686, NB686_682⟩ := nb BK682 hg; replace BK669 := bb BK669 hb; replace BK678 := bb BK678 hb; replace BK682 := bb BK682 hb; replace HB := bs HB hb; clear hb hg; have hnb41 := nn NB686_669; have hnb42 := nn NB686_678; have hnb43 := nn NB686_682; have hcz44 := k2 BK686; have hcz45 := k2 BK682) | ((with_reducible refine gc 18 rfl ?_); refine gl_ (some 75) rfl rfl Tryd.func18 ((carrefourref02_Mul.calls kj3 _ _ (wrap64 (t670 - 1)) _ _ _ _ _ A24.out).mono ?_) ag; rintro e w46 ⟨rfl, hb⟩; refine ⟨_, rfl, ?_⟩; replace BK669 := bb BK669 hb; replace BK678 := bb BK678 hb; replace BK682 := bb BK682 hb; replace BK686 := bp_ #[.int .i64 t683, .int .i64 t684] BK686 hb; replace HB := bs HB hb; (try clear hb)) | ((with_reducible refine gd 14 rfl ?_); refine bx_ 14 23 #[.int .i64 0, .int .i64 0] rfl rfl ?_; intro gb690 hg w47 BK690 hb; have GE690 := bz HB hg; have ⟨NB669_690, NB690_669⟩ := nb BK669 hg; have ⟨NB678_690, NB690_678⟩ := nb BK678 hg; have ⟨NB682_690, NB690_682⟩ := nb BK682 hg; have ⟨NB686_690, NB690_686⟩ := nb BK686 hg; replace BK669 := bb BK669 hb; replace BK678 := bb BK678 hb; replace BK682 := bb BK682 hb; replace BK686 := bb BK686 hb; replace HB := bs HB hb; clear hb hg; have hnb48 := nn NB690_669; have hnb49 := nn NB690_678; have hnb50 := nn NB690_682; have hnb51 := nn NB690_686; have hcz52 := k2 BK690; have hcz53 := k2 BK686; have hcz54 := k2 BK678) | (go_at_call 19; (with_reducible refine (carrefourref02_Cmp.calls kj3 _ _ _ _ _ _ A27.out).mono ?_); rintro e w55 ⟨rfl, hb⟩; replace BK669 := bb BK669 hb; replace BK678 := bb BK678 hb; replace BK682 := bb BK682 hb; replace BK686 := bb BK686 hb; replace BK690 := bp_ #[.int .i64 t687, .int .i64 t688] BK690 hb; replace HB := bs HB hb; (try clear hb)))
              go_ret
              exact ⟨by first | rfl | (simp [errW_none, errW_some] <;> rfl) | (simp [*, errW_none, errW_some] <;> rfl), bf HB⟩
            · rw [if_neg c28] at H
              have c28b0 : decide (t691 < 0) = false := decide_eq_false c28
              clear c28
              by_cases c56 : t689 = 0
              · rw [if_pos c56] at H
                have c56b0 : (t689 == 0) = true := beq_iff_eq.mpr c56
                have c56b1 : (t689 != 0) = false := bne_eq_false_iff_eq.mpr c56
                clear c56
                replace H := bi_ H; obtain ⟨t692, A57, H⟩ := H
                (try dsimp only at H)
                by_cases c58 : t692 ≥ 0
                · rw [if_pos c58] at H
                  have c58b0 : decide (0 ≤ t692) = true := decide_eq_true c58
                  clear c58
                  obtain rfl := Option.some.inj H
                  go_wp2_with (first | ((with_reducible refine gc 17 rfl ?_); refine gl_ (some 49) rfl rfl Tryd.func17 ((carrefourref02_Of.calls kj3 (wrap64 ((wrap64 (3 * a0)) + 100)) _ _ _ _ _ A21.out).mono ?_) ag; rintro e w59 ⟨rfl, hb⟩; refine ⟨_, rfl, ?_⟩; replace BK669 := bb BK669 hb; replace HB := bs HB hb; (try clear hb)) | ((with_reducible refine gd 8 rfl ?_); refine bx_ 8 23 #[.int .i64 0, .int .i64 0] rfl rfl ?_; intro gb678 hg w60 BK678 hb; have GE678 := bz HB hg; have ⟨NB669_678, NB678_669⟩ := nb BK669 hg; replace BK669 := bb BK669 hb; replace HB := bs HB hb; clear hb hg; have hnb61 := nn NB678_669; have hcz62 := k2 BK678; have hcz63 := k2 BK669) | ((with_reducible refine gc 17 rfl ?_); refine gl_ (some 60) rfl rfl Tryd.func17 ((carrefourref02_Of.calls kj3 (wrap64 (a1_1 - a1_0)) _ _ _ _ _ A22.out).mono ?_) ag; rintro e w64 ⟨rfl, hb⟩; refine ⟨_, rfl, ?_⟩; replace BK669 := bb BK669 hb; replace BK678 := bp_ #[.int .i64 t675, .int .i64 t676] BK678 hb; replace HB := bs HB hb; (try clear hb)) | ((with_reducible refine gd 10 rfl ?_); refine bx_ 10 23 #[.int .i64 0, .int .i64 0] rfl rfl ?_; intro gb682 hg w65 BK682 hb; have GE682 := bz HB hg; have ⟨NB669_682, NB682_669⟩ := nb BK669 hg; have ⟨NB678_682, NB682_678⟩ := nb BK678 hg; replace BK669 := bb BK669 hb; replace BK678 := bb BK678 hb; replace HB := bs HB hb; clear hb hg; have hnb66 := nn NB682_669; have hnb67 := nn NB682_678; have hcz68 := k2 BK682) | ((with_reducible refine gc 18 rfl ?_); refine gl_ (some 67) rfl rfl Tryd.func18 ((carrefourref02_Mul.calls kj3 _ _ _ _ _ _ _ _ A23.out).mono ?_) ag; rintro e w69 ⟨rfl, hb⟩; refine ⟨_, rfl, ?_⟩; replace BK669 := bb BK669 hb; replace BK678 := bb BK678 hb; replace BK682 := bp_ #[.int .i64 t679, .int .i64 t680] BK682 hb; replace HB := bs HB hb; (try clear hb)) | ((with_reducible refine gd 12 rfl ?_); refine bx_ 12 23 #[.int .i64 0, .int .i64 0] rfl rfl ?_; intro gb686 hg w70 BK686 hb; have GE686 := bz HB hg; have ⟨NB669_686, NB686_669⟩ := nb BK669 hg; have ⟨NB678_686, NB686_678⟩ := nb BK678 hg; have ⟨NB682_686, NB686_682⟩ := nb BK682 hg; replace BK669 := bb BK669 hb; replace BK678 := bb BK678 hb; replace BK682 := bb BK682 hb; replace HB := bs HB hb; clear hb hg; have hnb71 := nn NB686_669; have hnb72 := nn NB686_678; have hnb73 := nn NB686_682; have hcz74 := k2 BK686; have hcz75 := k2 BK682) | ((with_reducible refine gc 18 rfl ?_); refine gl_ (some 75) rfl rfl Tryd.func18 ((carrefourref02_Mul.calls kj3 _ _ (wrap64 (t670 - 1)) _ _ _ _ _ A24.out).mono ?_) ag; rintro e w76 ⟨rfl, hb⟩; refine ⟨_, rfl, ?_⟩; replace BK669 := bb BK669 hb; replace BK678 := bb BK678 hb; replace BK682 := bb BK682 hb; replace BK686 := bp_ #[.int .i64 t683, .int .i64 t684] BK686 hb; replace HB := bs HB hb; (try clear hb)) | ((with_reducible refine gd 14 rfl ?_); refine bx_ 14 23 #[.int .i64 0, .int .i64 0] rfl rfl ?_; intro gb690 hg w77 BK690 hb; have GE690 := bz HB hg; have ⟨NB669_690, NB690_669⟩ := nb BK669 hg; have ⟨NB678_690, NB690_678⟩ := nb BK678 hg; have ⟨NB682_690, NB690_682⟩ := nb BK682 hg; have ⟨NB686_690, NB690_686⟩ := nb BK686 hg; replace BK669 := bb BK669 hb; replace BK678 := bb BK678 hb; replace BK682 := bb BK682 hb; replace BK686 := bb BK686 hb; replace HB := bs HB hb; clear hb hg; have hnb78 := nn NB690_669; have hnb79 := nn NB690_678; have hnb80 := nn NB690_682; have hnb81 := nn NB690_686; have hcz82 := k2 BK690; have hcz83 := k2 BK686; have hcz84 := k2 BK678) | (go_at_call 19; (with_reducible refine (carrefourref02_Cmp.calls kj3 _ _ _ _ _ _ A27.out).mono ?_); rintro e w85 ⟨rfl, hb⟩; replace BK669 := bb BK669 hb; replace BK678 := bb BK678 hb; replace BK682 := bb BK682 hb; replace BK686 := bb BK686 hb; replace BK690 := bp_ #[.int .i64 t687, .int .i64 t688] BK690 hb; replace HB := bs HB hb; (try clear hb); have hcz86 := k2 BK690; have hcz87 := k2 BK678) | (go_at_call 19; (with_reducible refine (carrefourref02_Cmp.calls kj3 _ _ _ _ _ _ A57.out).mono ?_); rintro e w88 ⟨rfl, hb⟩; replace BK669 := bb BK669 hb; replace BK678 := bb BK678 hb; replace BK682 := bb BK682 hb; replace BK686 := bb BK686 hb; replace BK690 := bb BK690 hb; replace HB := bs HB hb; (try clear hb)))
                  go_ret
                  exact ⟨by first | rfl | (simp [errW_none, errW_some] <;> rfl) | (simp [*, errW_none, errW_some] <;> rfl), bf HB⟩
                · rw [if_neg c58] at H
                  have c58b0 : decide (0 ≤ t692) = false := decide_eq_false c58
                  clear c58
                  replace H := bi_ H; obtain ⟨t693, A89, H⟩ := H
                  (try dsimp only at H)
                  obtain rfl := Option.some.inj H
                  go_wp2_with (first | ((with_reducible refine gc 17 rfl ?_); refine gl_ (some 49) rfl rfl Tryd.func17 ((carrefourref02_Of.calls kj3 (wrap64 ((wrap64 (3 * a0)) + 100)) _ _ _ _ _ A21.out).mono ?_) ag; rintro e w90 ⟨rfl, hb⟩; refine ⟨_, rfl, ?_⟩; replace BK669 := bb BK669 hb; replace HB := bs HB hb; (try clear hb)) | ((with_reducible refine gd 8 rfl ?_); refine bx_ 8 23 #[.int .i64 0, .int .i64 0] rfl rfl ?_; intro gb678 hg w91 BK678 hb; have GE678 := bz HB hg; have ⟨NB669_678, NB678_669⟩ := nb BK669 hg; replace BK669 := bb BK669 hb; replace HB := bs HB hb; clear hb hg; have hnb92 := nn NB678_669; have hcz93 := k2 BK678; have hcz94 := k2 BK669) | ((with_reducible refine gc 17 rfl ?_); refine gl_ (some 60) rfl rfl Tryd.func17 ((carrefourref02_Of.calls kj3 (wrap64 (a1_1 - a1_0)) _ _ _ _ _ A22.out).mono ?_) ag; rintro e w95 ⟨rfl, hb⟩; refine ⟨_, rfl, ?_⟩; replace BK669 := bb BK669 hb; replace BK678 := bp_ #[.int .i64 t675, .int .i64 t676] BK678 hb; replace HB := bs HB hb; (try clear hb)) | ((with_reducible refine gd 10 rfl ?_); refine bx_ 10 23 #[.int .i64 0, .int .i64 0] rfl rfl ?_; intro gb682 hg w96 BK682 hb; have GE682 := bz HB hg; have ⟨NB669_682, NB682_669⟩ := nb BK669 hg; have ⟨NB678_682, NB682_678⟩ := nb BK678 hg; replace BK669 := bb BK669 hb; replace BK678 := bb BK678 hb; replace HB := bs HB hb; clear hb hg; have hnb97 := nn NB682_669; have hnb98 := nn NB682_678; have hcz99 := k2 BK682) | ((with_reducible refine gc 18 rfl ?_); refine gl_ (some 67) rfl rfl Tryd.func18 ((carrefourref02_Mul.calls kj3 _ _ _ _ _ _ _ _ A23.out).mono ?_) ag; rintro e w100 ⟨rfl, hb⟩; refine ⟨_, rfl, ?_⟩; replace BK669 := bb BK669 hb; replace BK678 := bb BK678 hb; replace BK682 := bp_ #[.int .i64 t679, .int .i64 t680] BK682 hb; replace HB := bs HB hb; (try clear hb)) | ((with_reducible refine gd 12 rfl ?_); refine bx_ 12 23 #[.int .i64 0, .int .i64 0] rfl rfl ?_; intro gb686 hg w101 BK686 hb; have GE686 := bz HB hg; have ⟨NB669_686, NB686_669⟩ := nb BK669 hg; have ⟨NB678_686, NB686_678⟩ := nb BK678 hg; have ⟨NB682_686, NB686_682⟩ := nb BK682 hg; replace BK669 := bb BK669 hb; replace BK678 := bb BK678 hb; replace BK682 := bb BK682 hb; replace HB := bs HB hb; clear hb hg; have hnb102 := nn NB686_669; have hnb103 := nn NB686_678; have hnb104 := nn NB686_682; have hcz105 := k2 BK686; have hcz106 := k2 BK682) | ((with_reducible refine gc 18 rfl ?_); refine gl_ (some 75) rfl rfl Tryd.func18 ((carrefourref02_Mul.calls kj3 _ _ (wrap64 (t670 - 1)) _ _ _ _ _ A24.out).mono ?_) ag; rintro e w107 ⟨rfl, hb⟩; refine ⟨_, rfl, ?_⟩; replace BK669 := bb BK669 hb; replace BK678 := bb BK678 hb; replace BK682 := bb BK682 hb; replace BK686 := bp_ #[.int .i64 t683, .int .i64 t684] BK686 hb; replace HB := bs HB hb; (try clear hb)) | ((with_reducible refine gd 14 rfl ?_); refine bx_ 14 23 #[.int .i64 0, .int .i64 0] rfl rfl ?_; intro gb690 hg w108 BK690 hb; have GE690 := bz HB hg; have ⟨NB669_690, NB690_669⟩ := nb BK669 hg; have ⟨NB678_690, NB690_678⟩ := nb BK678 hg; have ⟨NB682_690, NB690_682⟩ := nb BK682 hg; have ⟨NB686_690, NB690_686⟩ := nb BK686 hg; replace BK669 := bb BK669 hb; replace BK678 := bb BK678 hb; replace BK682 := bb BK682 hb; replace BK686 := bb BK686 hb; replace HB := bs HB hb; clear hb hg; have hnb109 := nn NB690_669; have hnb110 := nn NB690_678; have hnb111 := nn NB690_682; have hnb112 := nn NB690_686; have hcz113 := k2 BK690; have hcz114 := k2 BK686; have hcz115 := k2 BK678) | (go_at_call 19; (with_reducible refine (carrefourref02_Cmp.calls kj3 _ _ _ _ _ _ A27.out).mono ?_); rintro e w116 ⟨rfl, hb⟩; replace BK669 := bb BK669 hb; replace BK678 := bb BK678 hb; replace BK682 := bb BK682 hb; replace BK686 := bb BK686 hb; replace BK690 := bp_ #[.int .i64 t687, .int .i64 t688] BK690 hb; replace HB := bs HB hb; (try clear hb); have hcz117 := k2 BK690; have hcz118 := k2 BK678) | (go_at_call 19; (with_reducible refine (carrefourref02_Cmp.calls kj3 _ _ _ _ _ _ A57.out).mono ?_); rintro e w119 ⟨rfl, hb⟩; replace BK669 := bb BK669 hb; replace BK678 := bb BK678 hb; replace BK682 := bb BK682 hb; replace BK686 := bb BK686 hb; replace BK690 := bb BK690 hb; replace HB := bs HB hb; (try clear hb)) | ((with_reducible refine gc 12 rfl ?_); refine gl_ (some 100) rfl rfl Tryd.func12 ((carrefourlaw12_awake.calls kj3 _ _ A89.out ?hT).mono ?_) ag; (case hT => first | exact tb GT.out HB | exact tb0 GT.out); rintro e w120 ⟨rfl, hb⟩; refine ⟨_, rfl, ?_⟩; replace BK669 := bb BK669 hb; replace BK678 := bb BK678 hb; replace BK682 := bb BK682 hb; replace BK686 := bb BK686 hb; replace BK690 := bb BK690 hb; replace HB := bs HB hb; (try clear hb)))
                  go_ret
                  exact ⟨by first | rfl | (simp [errW_none, errW_some] <;> rfl) | (simp [*, errW_none, errW_some] <;> rfl), bf HB⟩
              · rw [if_neg c56] at H
                have c56b0 : (t689 == 0) = false := beq_eq_false_iff_ne.mpr c56
                have c56b1 : (t689 != 0) = true := bne_iff_ne.mpr c56
                replace H := bi_ H; obtain ⟨t694, A121, H⟩ := H
                (try dsimp only at H)
                obtain rfl := Option.some.inj H
                go_wp2_with (first | ((with_reducible refine gc 17 rfl ?_); refine gl_ (some 49) rfl rfl Tryd.func17 ((carrefourref02_Of.calls kj3 (wrap64 ((wrap64 (3 * a0)) + 100)) _ _ _ _ _ A21.out).mono ?_) ag; rintro e w122 ⟨rfl, hb⟩; refine ⟨_, rfl, ?_⟩; replace BK669 := bb BK669 hb; replace HB := bs HB hb; (try clear hb)) | ((with_reducible refine gd 8 rfl ?_); refine bx_ 8 23 #[.int .i64 0, .int .i64 0] rfl rfl ?_; intro gb678 hg w123 BK678 hb; have GE678 := bz HB hg; have ⟨NB669_678, NB678_669⟩ := nb BK669 hg; replace BK669 := bb BK669 hb; replace HB := bs HB hb; clear hb hg; have hnb124 := nn NB678_669; have hcz125 := k2 BK678; have hcz126 := k2 BK669) | ((with_reducible refine gc 17 rfl ?_); refine gl_ (some 60) rfl rfl Tryd.func17 ((carrefourref02_Of.calls kj3 (wrap64 (a1_1 - a1_0)) _ _ _ _ _ A22.out).mono ?_) ag; rintro e w127 ⟨rfl, hb⟩; refine ⟨_, rfl, ?_⟩; replace BK669 := bb BK669 hb; replace BK678 := bp_ #[.int .i64 t675, .int .i64 t676] BK678 hb; replace HB := bs HB hb; (try clear hb)) | ((with_reducible refine gd 10 rfl ?_); refine bx_ 10 23 #[.int .i64 0, .int .i64 0] rfl rfl ?_; intro gb682 hg w128 BK682 hb; have GE682 := bz HB hg; have ⟨NB669_682, NB682_669⟩ := nb BK669 hg; have ⟨NB678_682, NB682_678⟩ := nb BK678 hg; replace BK669 := bb BK669 hb; replace BK678 := bb BK678 hb; replace HB := bs HB hb; clear hb hg; have hnb129 := nn NB682_669; have hnb130 := nn NB682_678; have hcz131 := k2 BK682) | ((with_reducible refine gc 18 rfl ?_); refine gl_ (some 67) rfl rfl Tryd.func18 ((carrefourref02_Mul.calls kj3 _ _ _ _ _ _ _ _ A23.out).mono ?_) ag; rintro e w132 ⟨rfl, hb⟩; refine ⟨_, rfl, ?_⟩; replace BK669 := bb BK669 hb; replace BK678 := bb BK678 hb; replace BK682 := bp_ #[.int .i64 t679, .int .i64 t680] BK682 hb; replace HB := bs HB hb; (try clear hb)) | ((with_reducible refine gd 12 rfl ?_); refine bx_ 12 23 #[.int .i64 0, .int .i64 0] rfl rfl ?_; intro gb686 hg w133 BK686 hb; have GE686 := bz HB hg; have ⟨NB669_686, NB686_669⟩ := nb BK669 hg; have ⟨NB678_686, NB686_678⟩ := nb BK678 hg; have ⟨NB682_686, NB686_682⟩ := nb BK682 hg; replace BK669 := bb BK669 hb; replace BK678 := bb BK678 hb; replace BK682 := bb BK682 hb; replace HB := bs HB hb; clear hb hg; have hnb134 := nn NB686_669; have hnb135 := nn NB686_678; have hnb136 := nn NB686_682; have hcz137 := k2 BK686; have hcz138 := k2 BK682) | ((with_reducible refine gc 18 rfl ?_); refine gl_ (some 75) rfl rfl Tryd.func18 ((carrefourref02_Mul.calls kj3 _ _ (wrap64 (t670 - 1)) _ _ _ _ _ A24.out).mono ?_) ag; rintro e w139 ⟨rfl, hb⟩; refine ⟨_, rfl, ?_⟩; replace BK669 := bb BK669 hb; replace BK678 := bb BK678 hb; replace BK682 := bb BK682 hb; replace BK686 := bp_ #[.int .i64 t683, .int .i64 t684] BK686 hb; replace HB := bs HB hb; (try clear hb)) | ((with_reducible refine gd 14 rfl ?_); refine bx_ 14 23 #[.int .i64 0, .int .i64 0] rfl rfl ?_; intro gb690 hg w140 BK690 hb; have GE690 := bz HB hg; have ⟨NB669_690, NB690_669⟩ := nb BK669 hg; have ⟨NB678_690, NB690_678⟩ := nb BK678 hg; have ⟨NB682_690, NB690_682⟩ := nb BK682 hg; have ⟨NB686_690, NB690_686⟩ := nb BK686 hg; replace BK669 := bb BK669 hb; replace BK678 := bb BK678 hb; replace BK682 := bb BK682 hb; replace BK686 := bb BK686 hb; replace HB := bs HB hb; clear hb hg; have hnb141 := nn NB690_669; have hnb142 := nn NB690_678; have hnb143 := nn NB690_682; have hnb144 := nn NB690_686; have hcz145 := k2 BK690; have hcz146 := k2 BK686; have hcz147 := k2 BK678) | (go_at_call 19; (with_reducible refine (carrefourref02_Cmp.calls kj3 _ _ _ _ _ _ A27.out).mono ?_); rintro e w148 ⟨rfl, hb⟩; replace BK669 := bb BK669 hb; replace BK678 := bb BK678 hb; replace BK682 := bb BK682 hb; replace BK686 := bb BK686 hb; replace BK690 := bp_ #[.int .i64 t687, .int .i64 t688] BK690 hb; replace HB := bs HB hb; (try clear hb)) | ((with_reducible refine gc 12 rfl ?_); refine gl_ (some 100) rfl rfl Tryd.func12 ((carrefourlaw12_awake.calls kj3 _ _ A121.out ?hT).mono ?_) ag; (case hT => first | exact tb GT.out HB | exact tb0 GT.out); rintro e w149 ⟨rfl, hb⟩; refine ⟨_, rfl, ?_⟩; replace BK669 := bb BK669 hb; replace BK678 := bb BK678 hb; replace BK682 := bb BK682 hb; replace BK686 := bb BK686 hb; replace BK690 := bb BK690 hb; replace HB := bs HB hb; (try clear hb)))
                go_ret
                exact ⟨by first | rfl | (simp [errW_none, errW_some] <;> rfl) | (simp [*, errW_none, errW_some] <;> rfl), bf HB⟩
          · rw [if_neg c26] at H
            have c26b0 : (t685 == 0) = false := beq_eq_false_iff_ne.mpr c26
            have c26b1 : (t685 != 0) = true := bne_iff_ne.mpr c26
            by_cases c150 : t689 = 0
            · rw [if_pos c150] at H
              have c150b0 : (t689 == 0) = true := beq_iff_eq.mpr c150
              have c150b1 : (t689 != 0) = false := bne_eq_false_iff_eq.mpr c150
              clear c150
              replace H := bi_ H; obtain ⟨t695, A151, H⟩ := H
              (try dsimp only at H)
              by_cases c152 : t695 ≥ 0
              · rw [if_pos c152] at H
                have c152b0 : decide (0 ≤ t695) = true := decide_eq_true c152
                clear c152
                obtain rfl := Option.some.inj H
                go_wp2_with (first | ((with_reducible refine gc 17 rfl ?_); refine gl_ (some 49) rfl rfl Tryd.func17 ((carrefourref02_Of.calls kj3 (wrap64 ((wrap64 (3 * a0)) + 100)) _ _ _ _ _ A21.out).mono ?_) ag; rintro e w153 ⟨rfl, hb⟩; refine ⟨_, rfl, ?_⟩; replace BK669 := bb BK669 hb; replace HB := bs HB hb; (try clear hb)) | ((with_reducible refine gd 8 rfl ?_); refine bx_ 8 23 #[.int .i64 0, .int .i64 0] rfl rfl ?_; intro gb678 hg w154 BK678 hb; have GE678 := bz HB hg; have ⟨NB669_678, NB678_669⟩ := nb BK669 hg; replace BK669 := bb BK669 hb; replace HB := bs HB hb; clear hb hg; have hnb155 := nn NB678_669; have hcz156 := k2 BK678; have hcz157 := k2 BK669) | ((with_reducible refine gc 17 rfl ?_); refine gl_ (some 60) rfl rfl Tryd.func17 ((carrefourref02_Of.calls kj3 (wrap64 (a1_1 - a1_0)) _ _ _ _ _ A22.out).mono ?_) ag; rintro e w158 ⟨rfl, hb⟩; refine ⟨_, rfl, ?_⟩; replace BK669 := bb BK669 hb; replace BK678 := bp_ #[.int .i64 t675, .int .i64 t676] BK678 hb; replace HB := bs HB hb; (try clear hb)) | ((with_reducible refine gd 10 rfl ?_); refine bx_ 10 23 #[.int .i64 0, .int .i64 0] rfl rfl ?_; intro gb682 hg w159 BK682 hb; have GE682 := bz HB hg; have ⟨NB669_682, NB682_669⟩ := nb BK669 hg; have ⟨NB678_682, NB682_678⟩ := nb BK678 hg; replace BK669 := bb BK669 hb; replace BK678 := bb BK678 hb; replace HB := bs HB hb; clear hb hg; have hnb160 := nn NB682_669; have hnb161 := nn NB682_678; have hcz162 := k2 BK682) | ((with_reducible refine gc 18 rfl ?_); refine gl_ (some 67) rfl rfl Tryd.func18 ((carrefourref02_Mul.calls kj3 _ _ _ _ _ _ _ _ A23.out).mono ?_) ag; rintro e w163 ⟨rfl, hb⟩; refine ⟨_, rfl, ?_⟩; replace BK669 := bb BK669 hb; replace BK678 := bb BK678 hb; replace BK682 := bp_ #[.int .i64 t679, .int .i64 t680] BK682 hb; replace HB := bs HB hb; (try clear hb)) | ((with_reducible refine gd 12 rfl ?_); refine bx_ 12 23 #[.int .i64 0, .int .i64 0] rfl rfl ?_; intro gb686 hg w164 BK686 hb; have GE686 := bz HB hg; have ⟨NB669_686, NB686_669⟩ := nb BK669 hg; have ⟨NB678_686, NB686_678⟩ := nb BK678 hg; have ⟨NB682_686, NB686_682⟩ := nb BK682 hg; replace BK669 := bb BK669 hb; replace BK678 := bb BK678 hb; replace BK682 := bb BK682 hb; replace HB := bs HB hb; clear hb hg; have hnb165 := nn NB686_669; have hnb166 := nn NB686_678; have hnb167 := nn NB686_682; have hcz168 := k2 BK686; have hcz169 := k2 BK682) | ((with_reducible refine gc 18 rfl ?_); refine gl_ (some 75) rfl rfl Tryd.func18 ((carrefourref02_Mul.calls kj3 _ _ (wrap64 (t670 - 1)) _ _ _ _ _ A24.out).mono ?_) ag; rintro e w170 ⟨rfl, hb⟩; refine ⟨_, rfl, ?_⟩; replace BK669 := bb BK669 hb; replace BK678 := bb BK678 hb; replace BK682 := bb BK682 hb; replace BK686 := bp_ #[.int .i64 t683, .int .i64 t684] BK686 hb; replace HB := bs HB hb; (try clear hb)) | ((with_reducible refine gd 14 rfl ?_); refine bx_ 14 23 #[.int .i64 0, .int .i64 0] rfl rfl ?_; intro gb690 hg w171 BK690 hb; have GE690 := bz HB hg; have ⟨NB669_690, NB690_669⟩ := nb BK669 hg; have ⟨NB678_690, NB690_678⟩ := nb BK678 hg; have ⟨NB682_690, NB690_682⟩ := nb BK682 hg; have ⟨NB686_690, NB690_686⟩ := nb BK686 hg; replace BK669 := bb BK669 hb; replace BK678 := bb BK678 hb; replace BK682 := bb BK682 hb; replace BK686 := bb BK686 hb; replace HB := bs HB hb; clear hb hg; have hnb172 := nn NB690_669; have hnb173 := nn NB690_678; have hnb174 := nn NB690_682; have hnb175 := nn NB690_686; have hcz176 := k2 BK690; have hcz177 := k2 BK678) | (go_at_call 19; (with_reducible refine (carrefourref02_Cmp.calls kj3 _ _ _ _ _ _ A151.out).mono ?_); rintro e w178 ⟨rfl, hb⟩; replace BK669 := bb BK669 hb; replace BK678 := bb BK678 hb; replace BK682 := bb BK682 hb; replace BK686 := bb BK686 hb; replace BK690 := bp_ #[.int .i64 t687, .int .i64 t688] BK690 hb; replace HB := bs HB hb; (try clear hb)))
                go_ret
                exact ⟨by first | rfl | (simp [errW_none, errW_some] <;> rfl) | (simp [*, errW_none, errW_some] <;> rfl), bf HB⟩
              · rw [if_neg c152] at H
                have c152b0 : decide (0 ≤ t695) = false := decide_eq_false c152
                clear c152
                replace H := bi_ H; obtain ⟨t696, A179, H⟩ := H
                (try dsimp only at H)
                obtain rfl := Option.some.inj H
                go_wp2_with (first | ((with_reducible refine gc 17 rfl ?_); refine gl_ (some 49) rfl rfl Tryd.func17 ((carrefourref02_Of.calls kj3 (wrap64 ((wrap64 (3 * a0)) + 100)) _ _ _ _ _ A21.out).mono ?_) ag; rintro e w180 ⟨rfl, hb⟩; refine ⟨_, rfl, ?_⟩; replace BK669 := bb BK669 hb; replace HB := bs HB hb; (try clear hb)) | ((with_reducible refine gd 8 rfl ?_); refine bx_ 8 23 #[.int .i64 0, .int .i64 0] rfl rfl ?_; intro gb678 hg w181 BK678 hb; have GE678 := bz HB hg; have ⟨NB669_678, NB678_669⟩ := nb BK669 hg; replace BK669 := bb BK669 hb; replace HB := bs HB hb; clear hb hg; have hnb182 := nn NB678_669; have hcz183 := k2 BK678; have hcz184 := k2 BK669) | ((with_reducible refine gc 17 rfl ?_); refine gl_ (some 60) rfl rfl Tryd.func17 ((carrefourref02_Of.calls kj3 (wrap64 (a1_1 - a1_0)) _ _ _ _ _ A22.out).mono ?_) ag; rintro e w185 ⟨rfl, hb⟩; refine ⟨_, rfl, ?_⟩; replace BK669 := bb BK669 hb; replace BK678 := bp_ #[.int .i64 t675, .int .i64 t676] BK678 hb; replace HB := bs HB hb; (try clear hb)) | ((with_reducible refine gd 10 rfl ?_); refine bx_ 10 23 #[.int .i64 0, .int .i64 0] rfl rfl ?_; intro gb682 hg w186 BK682 hb; have GE682 := bz HB hg; have ⟨NB669_682, NB682_669⟩ := nb BK669 hg; have ⟨NB678_682, NB682_678⟩ := nb BK678 hg; replace BK669 := bb BK669 hb; replace BK678 := bb BK678 hb; replace HB := bs HB hb; clear hb hg; have hnb187 := nn NB682_669; have hnb188 := nn NB682_678; have hcz189 := k2 BK682) | ((with_reducible refine gc 18 rfl ?_); refine gl_ (some 67) rfl rfl Tryd.func18 ((carrefourref02_Mul.calls kj3 _ _ _ _ _ _ _ _ A23.out).mono ?_) ag; rintro e w190 ⟨rfl, hb⟩; refine ⟨_, rfl, ?_⟩; replace BK669 := bb BK669 hb; replace BK678 := bb BK678 hb; replace BK682 := bp_ #[.int .i64 t679, .int .i64 t680] BK682 hb; replace HB := bs HB hb; (try clear hb)) | ((with_reducible refine gd 12 rfl ?_); refine bx_ 12 23 #[.int .i64 0, .int .i64 0] rfl rfl ?_; intro gb686 hg w191 BK686 hb; have GE686 := bz HB hg; have ⟨NB669_686, NB686_669⟩ := nb BK669 hg; have ⟨NB678_686, NB686_678⟩ := nb BK678 hg; have ⟨NB682_686, NB686_682⟩ := nb BK682 hg; replace BK669 := bb BK669 hb; replace BK678 := bb BK678 hb; replace BK682 := bb BK682 hb; replace HB := bs HB hb; clear hb hg; have hnb192 := nn NB686_669; have hnb193 := nn NB686_678; have hnb194 := nn NB686_682; have hcz195 := k2 BK686; have hcz196 := k2 BK682) | ((with_reducible refine gc 18 rfl ?_); refine gl_ (some 75) rfl rfl Tryd.func18 ((carrefourref02_Mul.calls kj3 _ _ (wrap64 (t670 - 1)) _ _ _ _ _ A24.out).mono ?_) ag; rintro e w197 ⟨rfl, hb⟩; refine ⟨_, rfl, ?_⟩; replace BK669 := bb BK669 hb; replace BK678 := bb BK678 hb; replace BK682 := bb BK682 hb; replace BK686 := bp_ #[.int .i64 t683, .int .i64 t684] BK686 hb; replace HB := bs HB hb; (try clear hb)) | ((with_reducible refine gd 14 rfl ?_); refine bx_ 14 23 #[.int .i64 0, .int .i64 0] rfl rfl ?_; intro gb690 hg w198 BK690 hb; have GE690 := bz HB hg; have ⟨NB669_690, NB690_669⟩ := nb BK669 hg; have ⟨NB678_690, NB690_678⟩ := nb BK678 hg; have ⟨NB682_690, NB690_682⟩ := nb BK682 hg; have ⟨NB686_690, NB690_686⟩ := nb BK686 hg; replace BK669 := bb BK669 hb; replace BK678 := bb BK678 hb; replace BK682 := bb BK682 hb; replace BK686 := bb BK686 hb; replace HB := bs HB hb; clear hb hg; have hnb199 := nn NB690_669; have hnb200 := nn NB690_678; have hnb201 := nn NB690_682; have hnb202 := nn NB690_686; have hcz203 := k2 BK690; have hcz204 := k2 BK678) | (go_at_call 19; (with_reducible refine (carrefourref02_Cmp.calls kj3 _ _ _ _ _ _ A151.out).mono ?_); rintro e w205 ⟨rfl, hb⟩; replace BK669 := bb BK669 hb; replace BK678 := bb BK678 hb; replace BK682 := bb BK682 hb; replace BK686 := bb BK686 hb; replace BK690 := bp_ #[.int .i64 t687, .int .i64 t688] BK690 hb; replace HB := bs HB hb; (try clear hb)) | ((with_reducible refine gc 12 rfl ?_); refine gl_ (some 100) rfl rfl Tryd.func12 ((carrefourlaw12_awake.calls kj3 _ _ A179.out ?hT).mono ?_) ag; (case hT => first | exact tb GT.out HB | exact tb0 GT.out); rintro e w206 ⟨rfl, hb⟩; refine ⟨_, rfl, ?_⟩; replace BK669 := bb BK669 hb; replace BK678 := bb BK678 hb; replace BK682 := bb BK682 hb; replace BK686 := bb BK686 hb; replace BK690 := bb BK690 hb; replace HB := bs HB hb; (try clear hb)))
                go_ret
                exact ⟨by first | rfl | (simp [errW_none, errW_some] <;> rfl) | (simp [*, errW_none, errW_some] <;> rfl), bf HB⟩
            · rw [if_neg c150] at H
              have c150b0 : (t689 == 0) = false := beq_eq_false_iff_ne.mpr c150
              have c150b1 : (t689 != 0) = true := bne_iff_ne.mpr c150
              replace H := bi_ H; obtain ⟨t697, A207, H⟩ := H
              (try dsimp only at H)
              obtain rfl := Option.some.inj H
              go_wp2_with (first | ((with_reducible refine gc 17 rfl ?_); refine gl_ (some 49) rfl rfl Tryd.func17 ((carrefourref02_Of.calls kj3 (wrap64 ((wrap64 (3 * a0)) + 100)) _ _ _ _ _ A21.out).mono ?_) ag; rintro e w208 ⟨rfl, hb⟩; refine ⟨_, rfl, ?_⟩; replace BK669 := bb BK669 hb; replace HB := bs HB hb; (try clear hb)) | ((with_reducible refine gd 8 rfl ?_); refine bx_ 8 23 #[.int .i64 0, .int .i64 0] rfl rfl ?_; intro gb678 hg w209 BK678 hb; have GE678 := bz HB hg; have ⟨NB669_678, NB678_669⟩ := nb BK669 hg; replace BK669 := bb BK669 hb; replace HB := bs HB hb; clear hb hg; have hnb210 := nn NB678_669; have hcz211 := k2 BK678; have hcz212 := k2 BK669) | ((with_reducible refine gc 17 rfl ?_); refine gl_ (some 60) rfl rfl Tryd.func17 ((carrefourref02_Of.calls kj3 (wrap64 (a1_1 - a1_0)) _ _ _ _ _ A22.out).mono ?_) ag; rintro e w213 ⟨rfl, hb⟩; refine ⟨_, rfl, ?_⟩; replace BK669 := bb BK669 hb; replace BK678 := bp_ #[.int .i64 t675, .int .i64 t676] BK678 hb; replace HB := bs HB hb; (try clear hb)) | ((with_reducible refine gd 10 rfl ?_); refine bx_ 10 23 #[.int .i64 0, .int .i64 0] rfl rfl ?_; intro gb682 hg w214 BK682 hb; have GE682 := bz HB hg; have ⟨NB669_682, NB682_669⟩ := nb BK669 hg; have ⟨NB678_682, NB682_678⟩ := nb BK678 hg; replace BK669 := bb BK669 hb; replace BK678 := bb BK678 hb; replace HB := bs HB hb; clear hb hg; have hnb215 := nn NB682_669; have hnb216 := nn NB682_678; have hcz217 := k2 BK682) | ((with_reducible refine gc 18 rfl ?_); refine gl_ (some 67) rfl rfl Tryd.func18 ((carrefourref02_Mul.calls kj3 _ _ _ _ _ _ _ _ A23.out).mono ?_) ag; rintro e w218 ⟨rfl, hb⟩; refine ⟨_, rfl, ?_⟩; replace BK669 := bb BK669 hb; replace BK678 := bb BK678 hb; replace BK682 := bp_ #[.int .i64 t679, .int .i64 t680] BK682 hb; replace HB := bs HB hb; (try clear hb)) | ((with_reducible refine gd 12 rfl ?_); refine bx_ 12 23 #[.int .i64 0, .int .i64 0] rfl rfl ?_; intro gb686 hg w219 BK686 hb; have GE686 := bz HB hg; have ⟨NB669_686, NB686_669⟩ := nb BK669 hg; have ⟨NB678_686, NB686_678⟩ := nb BK678 hg; have ⟨NB682_686, NB686_682⟩ := nb BK682 hg; replace BK669 := bb BK669 hb; replace BK678 := bb BK678 hb; replace BK682 := bb BK682 hb; replace HB := bs HB hb; clear hb hg; have hnb220 := nn NB686_669; have hnb221 := nn NB686_678; have hnb222 := nn NB686_682; have hcz223 := k2 BK686; have hcz224 := k2 BK682) | ((with_reducible refine gc 18 rfl ?_); refine gl_ (some 75) rfl rfl Tryd.func18 ((carrefourref02_Mul.calls kj3 _ _ (wrap64 (t670 - 1)) _ _ _ _ _ A24.out).mono ?_) ag; rintro e w225 ⟨rfl, hb⟩; refine ⟨_, rfl, ?_⟩; replace BK669 := bb BK669 hb; replace BK678 := bb BK678 hb; replace BK682 := bb BK682 hb; replace BK686 := bp_ #[.int .i64 t683, .int .i64 t684] BK686 hb; replace HB := bs HB hb; (try clear hb)) | ((with_reducible refine gd 14 rfl ?_); refine bx_ 14 23 #[.int .i64 0, .int .i64 0] rfl rfl ?_; intro gb690 hg w226 BK690 hb; have GE690 := bz HB hg; have ⟨NB669_690, NB690_669⟩ := nb BK669 hg; have ⟨NB678_690, NB690_678⟩ := nb BK678 hg; have ⟨NB682_690, NB690_682⟩ := nb BK682 hg; have ⟨NB686_690, NB690_686⟩ := nb BK686 hg; replace BK669 := bb BK669 hb; replace BK678 := bb BK678 hb; replace BK682 := bb BK682 hb; replace BK686 := bb BK686 hb; replace HB := bs HB hb; clear hb hg; have hnb227 := nn NB690_669; have hnb228 := nn NB690_678; have hnb229 := nn NB690_682; have hnb230 := nn NB690_686; have hcz231 := k2 BK690) | ((with_reducible refine gc 12 rfl ?_); refine gl_ (some 100) rfl rfl Tryd.func12 ((carrefourlaw12_awake.calls kj3 _ _ A207.out ?hT).mono ?_) ag; (case hT => first | exact tb GT.out HB | exact tb0 GT.out); rintro e w232 ⟨rfl, hb⟩; refine ⟨_, rfl, ?_⟩; replace BK669 := bb BK669 hb; replace BK678 := bb BK678 hb; replace BK682 := bb BK682 hb; replace BK686 := bb BK686 hb; replace BK690 := bp_ #[.int .i64 t687, .int .i64 t688] BK690 hb; replace HB := bs HB hb; (try clear hb)))
              go_ret
              exact ⟨by first | rfl | (simp [errW_none, errW_some] <;> rfl) | (simp [*, errW_none, errW_some] <;> rfl), bf HB⟩
        · rw [if_neg c25] at H
          have c25b0 : (t681 == 0) = false := beq_eq_false_iff_ne.mpr c25
          have c25b1 : (t681 != 0) = true := bne_iff_ne.mpr c25
          obtain rfl := Option.some.inj H
          go_wp2_with (first | ((with_reducible refine gc 17 rfl ?_); refine gl_ (some 49) rfl rfl Tryd.func17 ((carrefourref02_Of.calls kj3 (wrap64 ((wrap64 (3 * a0)) + 100)) _ _ _ _ _ A21.out).mono ?_) ag; rintro e w233 ⟨rfl, hb⟩; refine ⟨_, rfl, ?_⟩; replace BK669 := bb BK669 hb; replace HB := bs HB hb; (try clear hb)) | ((with_reducible refine gd 8 rfl ?_); refine bx_ 8 23 #[.int .i64 0, .int .i64 0] rfl rfl ?_; intro gb678 hg w234 BK678 hb; have GE678 := bz HB hg; have ⟨NB669_678, NB678_669⟩ := nb BK669 hg; replace BK669 := bb BK669 hb; replace HB := bs HB hb; clear hb hg; have hnb235 := nn NB678_669; have hcz236 := k2 BK678; have hcz237 := k2 BK669) | ((with_reducible refine gc 17 rfl ?_); refine gl_ (some 60) rfl rfl Tryd.func17 ((carrefourref02_Of.calls kj3 (wrap64 (a1_1 - a1_0)) _ _ _ _ _ A22.out).mono ?_) ag; rintro e w238 ⟨rfl, hb⟩; refine ⟨_, rfl, ?_⟩; replace BK669 := bb BK669 hb; replace BK678 := bp_ #[.int .i64 t675, .int .i64 t676] BK678 hb; replace HB := bs HB hb; (try clear hb)) | ((with_reducible refine gd 10 rfl ?_); refine bx_ 10 23 #[.int .i64 0, .int .i64 0] rfl rfl ?_; intro gb682 hg w239 BK682 hb; have GE682 := bz HB hg; have ⟨NB669_682, NB682_669⟩ := nb BK669 hg; have ⟨NB678_682, NB682_678⟩ := nb BK678 hg; replace BK669 := bb BK669 hb; replace BK678 := bb BK678 hb; replace HB := bs HB hb; clear hb hg; have hnb240 := nn NB682_669; have hnb241 := nn NB682_678; have hcz242 := k2 BK682) | ((with_reducible refine gc 18 rfl ?_); refine gl_ (some 67) rfl rfl Tryd.func18 ((carrefourref02_Mul.calls kj3 _ _ _ _ _ _ _ _ A23.out).mono ?_) ag; rintro e w243 ⟨rfl, hb⟩; refine ⟨_, rfl, ?_⟩; replace BK669 := bb BK669 hb; replace BK678 := bb BK678 hb; replace BK682 := bp_ #[.int .i64 t679, .int .i64 t680] BK682 hb; replace HB := bs HB hb; (try clear hb)) | ((with_reducible refine gd 12 rfl ?_); refine bx_ 12 23 #[.int .i64 0, .int .i64 0] rfl rfl ?_; intro gb686 hg w244 BK686 hb; have GE686 := bz HB hg; have ⟨NB669_686, NB686_669⟩ := nb BK669 hg; have ⟨NB678_686, NB686_678⟩ := nb BK678 hg; have ⟨NB682_686, NB686_682⟩ := nb BK682 hg; replace BK669 := bb BK669 hb; replace BK678 := bb BK678 hb; replace BK682 := bb BK682 hb; replace HB := bs HB hb; clear hb hg; have hnb245 := nn NB686_669; have hnb246 := nn NB686_678; have hnb247 := nn NB686_682; have hcz248 := k2 BK686; have hcz249 := k2 BK682) | ((with_reducible refine gc 18 rfl ?_); refine gl_ (some 75) rfl rfl Tryd.func18 ((carrefourref02_Mul.calls kj3 _ _ (wrap64 (t670 - 1)) _ _ _ _ _ A24.out).mono ?_) ag; rintro e w250 ⟨rfl, hb⟩; refine ⟨_, rfl, ?_⟩; replace BK669 := bb BK669 hb; replace BK678 := bb BK678 hb; replace BK682 := bb BK682 hb; replace BK686 := bp_ #[.int .i64 t683, .int .i64 t684] BK686 hb; replace HB := bs HB hb; (try clear hb)) | ((with_reducible refine gd 14 rfl ?_); refine bx_ 14 23 #[.int .i64 0, .int .i64 0] rfl rfl ?_; intro gb690 hg w251 BK690 hb; have GE690 := bz HB hg; have ⟨NB669_690, NB690_669⟩ := nb BK669 hg; have ⟨NB678_690, NB690_678⟩ := nb BK678 hg; have ⟨NB682_690, NB690_682⟩ := nb BK682 hg; have ⟨NB686_690, NB690_686⟩ := nb BK686 hg; replace BK669 := bb BK669 hb; replace BK678 := bb BK678 hb; replace BK682 := bb BK682 hb; replace BK686 := bb BK686 hb; replace HB := bs HB hb; clear hb hg; have hnb252 := nn NB690_669; have hnb253 := nn NB690_678; have hnb254 := nn NB690_682; have hnb255 := nn NB690_686; have hcz256 := k2 BK690))
          go_ret
          exact ⟨by first | rfl | (simp [errW_none, errW_some] <;> rfl) | (simp [*, errW_none, errW_some] <;> rfl), bf HB⟩

end Go.Proofs.YtpdmiookdmncpaaDoor.X
