/- Walks: each '.calls' says that the Go function comes to what its Lean function tells. Conditions: as each theorem's head says. -/
import Derived.Test.YtcdaedhphdmnoaaDoorXD
import Derived.Test.YtcdaedhphdmnoaaDoorX0
import Derived.Test.YtcdaedhphdmnoaaDoorX10
import Derived.Test.YtcdaedhphdmnoaaDoorX14
import Derived.Test.YtcdaedhphdmnoaaDoorX16
namespace Go.Proofs.YtcdaedhphdmnoaaDoor.X
open Go.RowKit Go.Proofs.YtcdaedhphdmnoaaDoorW.PrintWords Go.Proofs.YtcdaedhphdmnoaaDoorW.PrintLast Go.Proofs.YtcdaedhphdmnoaaDoorW.PrintMore
attribute [local go_sem] max2_int min2_int max_two min_two max_three min_three max_four min_four   -- for this text's walks alone
set_option linter.unusedVariables false
set_option maxHeartbeats 8000000
set_option maxRecDepth 100000
set_option linter.unusedSimpArgs false

theorem gen1_ {P c K a} {W : World} {φ : World → Prop} (hφ : φ W) (h : ∀ w' : World, φ w' → Code.wp P c K a w') : Code.wp P c K a W := h W hφ

/-! ### carrefourlaw09_DemandGrows: function 3 -/
theorem carrefourlaw09_DemandGrows.calls (k : Nat) (a0_0 : ByteArray) (a0_1 : Int) (a0_2 : Int) (a0_3 : Int) (a0_4 : Int) (a0_5 : Int) (a0_6 : Int) (a0_7 : Int) (a0_8 : Int) (a0_9 : Int) (a0_10 : Int) (a1_0 : Int) (a1_1 : Int) (r : Bool) (w : World) (h : carrefourlaw09_DemandGrows.f k a0_0 a0_1 a0_2 a0_3 a0_4 a0_5 a0_6 a0_7 a0_8 a0_9 a0_10 a1_0 a1_1 = some r) (hT : TabOK w) :
    Calls Tryd.prog 3 #[.agg #[.string a0_0, .int .i64 a0_1, .int .i64 a0_2, .int .i64 a0_3, .int .i64 a0_4, .int .i64 a0_5, .int .i64 a0_6, .int .i64 a0_7, .int .i64 a0_8, .int .i64 a0_9, .int .i64 a0_10], .agg #[.int .i64 a1_0, .int .i64 a1_1]] w fun e w' => e = .returned (.bool r) ∧ Below w.heap.size w w' := by
  have GT := Aside0.mk hT
  clear hT
  have hu25 := Tryd.underlying25
  have hu23 := Tryd.underlying23
  have HB := Aside0.mk (Below.refl w.heap.size w)
  have H : (if a0_1 < 0 then (carrefourlaw09_DemandGrows.j0 k true a0_0 a0_1 a0_2 a0_3 a0_4 a0_5 a0_6 a0_7 a0_8 a0_9 a0_10 a1_0 a1_1) else (if a0_1 > 1000000000 then (carrefourlaw09_DemandGrows.j0 k true a0_0 a0_1 a0_2 a0_3 a0_4 a0_5 a0_6 a0_7 a0_8 a0_9 a0_10 a1_0 a1_1) else (if a0_2 < 1 then (carrefourlaw09_DemandGrows.j0 k true a0_0 a0_1 a0_2 a0_3 a0_4 a0_5 a0_6 a0_7 a0_8 a0_9 a0_10 a1_0 a1_1) else (if a0_2 > 1000000000 then (carrefourlaw09_DemandGrows.j0 k true a0_0 a0_1 a0_2 a0_3 a0_4 a0_5 a0_6 a0_7 a0_8 a0_9 a0_10 a1_0 a1_1) else (if a0_3 < 1 then (carrefourlaw09_DemandGrows.j0 k true a0_0 a0_1 a0_2 a0_3 a0_4 a0_5 a0_6 a0_7 a0_8 a0_9 a0_10 a1_0 a1_1) else (if a0_4 < 1 then (carrefourlaw09_DemandGrows.j0 k true a0_0 a0_1 a0_2 a0_3 a0_4 a0_5 a0_6 a0_7 a0_8 a0_9 a0_10 a1_0 a1_1) else (if a1_0 < 1 then (carrefourlaw09_DemandGrows.j0 k true a0_0 a0_1 a0_2 a0_3 a0_4 a0_5 a0_6 a0_7 a0_8 a0_9 a0_10 a1_0 a1_1) else (carrefourlaw09_DemandGrows.j0 k (decide (a1_1 < 1)) a0_0 a0_1 a0_2 a0_3 a0_4 a0_5 a0_6 a0_7 a0_8 a0_9 a0_10 a1_0 a1_1)))))))) = some r := h
  clear h
  have HC3 := Aside0.mk H
  clear H
  go_enter Tryd.func3, Tryd.ntmps3
  go_upto_region 1 with (first | ((with_reducible refine gd 2 rfl ?_); refine bx_ 2 25 #[.string a0_0, .int .i64 a0_1, .int .i64 a0_2, .int .i64 a0_3, .int .i64 a0_4, .int .i64 a0_5, .int .i64 a0_6, .int .i64 a0_7, .int .i64 a0_8, .int .i64 a0_9, .int .i64 a0_10] rfl rfl ?_; intro gb422 hg w4 BK422 hb; have GE422 := bz HB hg; replace HB := bs HB hb; clear hb hg) | ((with_reducible refine gd 3 rfl ?_); refine bx_ 3 23 #[.int .i64 a1_0, .int .i64 a1_1] rfl rfl ?_; intro gb423 hg w5 BK423 hb; have GE423 := bz HB hg; have ⟨NB422_423, NB423_422⟩ := nb BK422 hg; replace BK422 := bb BK422 hb; replace HB := bs HB hb; clear hb hg))
  (try simp only [Act.put, si, s0, s1])
  go_cut [55] (fun v55 wc => ∃ (kq : Nat) (x55_2 : Bool), v55 = .bool x55_2 ∧ Aside0 (carrefourlaw09_DemandGrows.j0 kq x55_2 a0_0 a0_1 a0_2 a0_3 a0_4 a0_5 a0_6 a0_7 a0_8 a0_9 a0_10 a1_0 a1_1 = some r) ∧ Aside0 (kq ≤ k) ∧ Aside0 (wc.heap[gb422]? = some (.cells #[.string a0_0, .int .i64 a0_1, .int .i64 a0_2, .int .i64 a0_3, .int .i64 a0_4, .int .i64 a0_5, .int .i64 a0_6, .int .i64 a0_7, .int .i64 a0_8, .int .i64 a0_9, .int .i64 a0_10] 25 (0, 0))) ∧ Aside0 (wc.heap[gb423]? = some (.cells #[.int .i64 a1_0, .int .i64 a1_1] 23 (0, 0))) ∧ Aside0 (Below w.heap.size w wc))
  case first =>
    have H := HC3.out
    clear HC3
    by_cases c6 : a0_1 < 0
    · rw [if_pos c6] at H
      have c6b0 : decide (a0_1 < 0) = true := decide_eq_true c6
      clear c6
      (first | rw [c6b0] | (simp only [i64_w, i32_w]; rw [c6b0]) | skip)
      have H' := Aside0.mk H
      clear H
      have hnb7 := nn NB422_423
      have hcz8 := X.k11 BK422
      go_wp2
      go_meet
      case rel => exact ⟨_, (true), (aq), H', ⟨by first | omega | exact Nat.le_refl _⟩, bu_ BK422, bu_ BK423, ⟨bf HB⟩⟩
    · rw [if_neg c6] at H
      have c6b0 : decide (a0_1 < 0) = false := decide_eq_false c6
      clear c6
      (first | rw [c6b0] | (simp only [i64_w, i32_w]; rw [c6b0]) | skip)
      by_cases c9 : a0_1 > 1000000000
      · rw [if_pos c9] at H
        have c9b0 : decide (1000000000 < a0_1) = true := decide_eq_true c9
        clear c9
        have H' := Aside0.mk H
        clear H
        have hnb10 := nn NB422_423
        have hcz11 := X.k11 BK422
        go_wp2
        go_meet
        case rel => exact ⟨_, (true), (aq), H', ⟨by first | omega | exact Nat.le_refl _⟩, bu_ BK422, bu_ BK423, ⟨bf HB⟩⟩
      · rw [if_neg c9] at H
        have c9b0 : decide (1000000000 < a0_1) = false := decide_eq_false c9
        clear c9
        by_cases c12 : a0_2 < 1
        · rw [if_pos c12] at H
          have c12b0 : decide (a0_2 < 1) = true := decide_eq_true c12
          clear c12
          have H' := Aside0.mk H
          clear H
          have hnb13 := nn NB422_423
          have hcz14 := X.k11 BK422
          go_wp2
          go_meet
          case rel => exact ⟨_, (true), (aq), H', ⟨by first | omega | exact Nat.le_refl _⟩, bu_ BK422, bu_ BK423, ⟨bf HB⟩⟩
        · rw [if_neg c12] at H
          have c12b0 : decide (a0_2 < 1) = false := decide_eq_false c12
          clear c12
          by_cases c15 : a0_2 > 1000000000
          · rw [if_pos c15] at H
            have c15b0 : decide (1000000000 < a0_2) = true := decide_eq_true c15
            clear c15
            have H' := Aside0.mk H
            clear H
            have hnb16 := nn NB422_423
            have hcz17 := X.k11 BK422
            go_wp2
            go_meet
            case rel => exact ⟨_, (true), (aq), H', ⟨by first | omega | exact Nat.le_refl _⟩, bu_ BK422, bu_ BK423, ⟨bf HB⟩⟩
          · rw [if_neg c15] at H
            have c15b0 : decide (1000000000 < a0_2) = false := decide_eq_false c15
            clear c15
            by_cases c18 : a0_3 < 1
            · rw [if_pos c18] at H
              have c18b0 : decide (a0_3 < 1) = true := decide_eq_true c18
              clear c18
              have H' := Aside0.mk H
              clear H
              have hnb19 := nn NB422_423
              have hcz20 := X.k11 BK422
              go_wp2
              go_meet
              case rel => exact ⟨_, (true), (aq), H', ⟨by first | omega | exact Nat.le_refl _⟩, bu_ BK422, bu_ BK423, ⟨bf HB⟩⟩
            · rw [if_neg c18] at H
              have c18b0 : decide (a0_3 < 1) = false := decide_eq_false c18
              clear c18
              by_cases c21 : a0_4 < 1
              · rw [if_pos c21] at H
                have c21b0 : decide (a0_4 < 1) = true := decide_eq_true c21
                clear c21
                have H' := Aside0.mk H
                clear H
                have hnb22 := nn NB422_423
                have hcz23 := X.k11 BK422
                go_wp2
                go_meet
                case rel => exact ⟨_, (true), (aq), H', ⟨by first | omega | exact Nat.le_refl _⟩, bu_ BK422, bu_ BK423, ⟨bf HB⟩⟩
              · rw [if_neg c21] at H
                have c21b0 : decide (a0_4 < 1) = false := decide_eq_false c21
                clear c21
                by_cases c24 : a1_0 < 1
                · rw [if_pos c24] at H
                  have c24b0 : decide (a1_0 < 1) = true := decide_eq_true c24
                  clear c24
                  have H' := Aside0.mk H
                  clear H
                  have hnb25 := nn NB422_423
                  have hcz26 := X.k11 BK422
                  have hcz27 := X.k2 BK423
                  go_wp2
                  go_meet
                  case rel => exact ⟨_, (true), (aq), H', ⟨by first | omega | exact Nat.le_refl _⟩, bu_ BK422, bu_ BK423, ⟨bf HB⟩⟩
                · rw [if_neg c24] at H
                  have c24b0 : decide (a1_0 < 1) = false := decide_eq_false c24
                  clear c24
                  have H' := Aside0.mk H
                  clear H
                  have hnb28 := nn NB422_423
                  have hcz29 := X.k11 BK422
                  have hcz30 := X.k2 BK423
                  go_wp2
                  go_meet
                  case rel => exact ⟨_, (decide (a1_1 < 1)), (aq), H', ⟨by first | omega | exact Nat.le_refl _⟩, bu_ BK422, bu_ BK423, ⟨bf HB⟩⟩
  case rest =>
    clear HC3
    try clear c1
    try clear c2
    try clear p2
    try clear c3
    try clear c6
    try clear c6b0
    try clear c7
    try clear c9
    try clear c9b0
    try clear c10
    try clear c12
    try clear c12b0
    try clear c13
    try clear c15
    try clear c15b0
    try clear c16
    try clear c18
    try clear c18b0
    try clear c19
    try clear c21
    try clear c21b0
    try clear c22
    try clear c24
    try clear c24b0
    try clear c25
    try clear c28
    try clear hcz11
    try clear hcz14
    try clear hcz17
    try clear hcz20
    try clear hcz23
    try clear hcz26
    try clear hcz27
    try clear hcz29
    try clear hcz30
    try clear hcz8
    obtain ⟨kq, x55_2, rfl, HA, HJ2, BK422, BK423, HB⟩ := hcut
    cases kq with
    | zero => exact absurd HA.out (by simp [carrefourlaw09_DemandGrows.j0])
    | succ kj2 =>
      have H := HA.out
      clear HA
      simp only [carrefourlaw09_DemandGrows.j0] at H
      by_cases c31 : x55_2 = true
      · subst c31
        have H1 : ((carrefourlaw09_awake.f kj2).bind fun t424 => (some t424)) = some r := by rw [if_pos rfl] at H; exact H
        clear H
        have H := H1
        clear H1
        replace H := bi_ H; obtain ⟨t424, A32, H⟩ := H
        (try dsimp only at H)
        obtain rfl := Option.some.inj H
        go_wp2_with (first | ((with_reducible refine gc 5 rfl ?_); refine gm_ (some 56) rfl rfl Tryd.func5 (carrefourlaw09_awake.calls kj2 _ _ A32.out (tt GT)) ag ?_; intro w33 hb; replace BK422 := bb BK422 hb; replace BK423 := bb BK423 hb; replace HB := bs HB hb; (try clear hb)))
        go_ret
        exact ⟨ae, bf HB⟩
      · replace c31 := Bool.eq_false_iff.mpr c31
        subst c31
        have H1 : ((demand_Ratio.f kj2 a0_0 a0_1 a0_2 a0_3 a0_4 a0_5 a0_6 a0_7 a0_8 a0_9 a0_10 a1_0 a1_1).bind fun bt425 => ((demand_Ratio.f kj2 a0_0 (wrap64 (a0_1 + 1)) a0_2 a0_3 a0_4 a0_5 a0_6 a0_7 a0_8 a0_9 a0_10 a1_0 a1_1).bind fun bt430 => ((demand_Ratio.f kj2 a0_0 a0_1 (wrap64 (a0_2 + 1)) a0_3 a0_4 a0_5 a0_6 a0_7 a0_8 a0_9 a0_10 a1_0 a1_1).bind fun bt435 => (if bt425.2.2 = 0 then (if bt430.2.2 = 0 then ((carrefourref02_Cmp.f kj2 bt425.1 bt425.2.1 bt430.1 bt430.2.1).bind fun t439 => (if t439 > 0 then (carrefourlaw09_DemandGrows.j1 kj2 true a0_0 a0_1 a0_2 a0_3 a0_4 a0_5 a0_6 a0_7 a0_8 a0_9 a0_10 a1_0 a1_1) else (if bt435.2.2 = 0 then ((carrefourref02_Cmp.f kj2 bt435.1 bt435.2.1 bt425.1 bt425.2.1).bind fun t440 => (carrefourlaw09_DemandGrows.j1 kj2 (decide (t440 > 0)) a0_0 a0_1 a0_2 a0_3 a0_4 a0_5 a0_6 a0_7 a0_8 a0_9 a0_10 a1_0 a1_1)) else (carrefourlaw09_DemandGrows.j1 kj2 false a0_0 a0_1 a0_2 a0_3 a0_4 a0_5 a0_6 a0_7 a0_8 a0_9 a0_10 a1_0 a1_1)))) else (if bt435.2.2 = 0 then ((carrefourref02_Cmp.f kj2 bt435.1 bt435.2.1 bt425.1 bt425.2.1).bind fun t441 => (carrefourlaw09_DemandGrows.j1 kj2 (decide (t441 > 0)) a0_0 a0_1 a0_2 a0_3 a0_4 a0_5 a0_6 a0_7 a0_8 a0_9 a0_10 a1_0 a1_1)) else (carrefourlaw09_DemandGrows.j1 kj2 false a0_0 a0_1 a0_2 a0_3 a0_4 a0_5 a0_6 a0_7 a0_8 a0_9 a0_10 a1_0 a1_1))) else (carrefourlaw09_DemandGrows.j1 kj2 false a0_0 a0_1 a0_2 a0_3 a0_4 a0_5 a0_6 a0_7 a0_8 a0_9 a0_10 a1_0 a1_1))))) = some r := by rw [if_neg (show ¬ (false = true) by decide)] at H; exact H
        clear H
        have H := H1
        clear H1
        replace H := bi_ H; obtain ⟨⟨t425, t426, t427⟩, A34, H⟩ := H
        (try dsimp only at H)
        replace H := bi_ H; obtain ⟨⟨t430, t431, t432⟩, A35, H⟩ := H
        (try dsimp only at H)
        replace H := bi_ H; obtain ⟨⟨t435, t436, t437⟩, A36, H⟩ := H
        (try dsimp only at H)
        have HC37 := Aside0.mk H
        clear H
        have hnb38 := nn NB422_423
        have hcz39 := X.k11 BK422
        have hcz40 := X.k2 BK423
        go_upto_region 6 with (first | ((with_reducible refine gc 6 rfl ?_); refine gm_ (some 60) rfl rfl Tryd.func6 (demand_Ratio.calls kj2 _ _ _ _ _ _ _ _ _ _ _ _ _ _ _ _ _ A34.out (tt GT)) ag ?_; intro w41 hb; replace BK422 := bb BK422 hb; replace BK423 := bb BK423 hb; replace HB := bs HB hb; (try clear hb)) | ((with_reducible refine gd 5 rfl ?_); refine bx_ 5 23 #[.int .i64 0, .int .i64 0] rfl rfl ?_; intro gb428 hg w42 BK428 hb; have GE428 := bz HB hg; have ⟨NB422_428, NB428_422⟩ := nb BK422 hg; have ⟨NB423_428, NB428_423⟩ := nb BK423 hg; replace BK422 := bb BK422 hb; replace BK423 := bb BK423 hb; replace HB := bs HB hb; clear hb hg; have hnb43 := nn NB428_422; have hnb44 := nn NB428_423; have hcz45 := X.k2 BK428; have hcz46 := X.k11 BK422) | ((with_reducible refine gd 7 rfl ?_); refine bx_ 7 25 #[.string (⟨#[]⟩ : ByteArray), .int .i64 0, .int .i64 0, .int .i64 0, .int .i64 0, .int .i64 0, .int .i64 0, .int .i64 0, .int .i64 0, .int .i64 0, .int .i64 0] rfl rfl ?_; intro gb429 hg w47 BK429 hb; have GE429 := bz HB hg; have ⟨NB422_429, NB429_422⟩ := nb BK422 hg; have ⟨NB423_429, NB429_423⟩ := nb BK423 hg; have NB428_429 := Aside0.mk ((by rw [hg]; exact Nat.ne_of_lt (blk_lt (g := gb428) (o := .cells #[.int .i64 t425, .int .i64 t426] 23 (0, 0)) (br_ BK428)) : gb428 ≠ gb429)); have NB429_428 := Aside0.mk ((by rw [hg]; exact Nat.ne_of_gt (blk_lt (g := gb428) (o := .cells #[.int .i64 t425, .int .i64 t426] 23 (0, 0)) (br_ BK428)) : gb429 ≠ gb428)); replace BK422 := bb BK422 hb; replace BK423 := bb BK423 hb; replace BK428 := bp_ #[.int .i64 t425, .int .i64 t426] BK428 hb; replace HB := bs HB hb; clear hb hg; have hnb48 := nn NB429_422; have hnb49 := nn NB429_423; have hnb50 := nn NB429_428; have hcz51 := X.k11 BK429; have hcz52 := X.k2 BK423))
        refine gen1_ (φ := fun w' => Aside0 (w'.heap[gb422]? = some (.cells #[.string a0_0, .int .i64 a0_1, .int .i64 a0_2, .int .i64 a0_3, .int .i64 a0_4, .int .i64 a0_5, .int .i64 a0_6, .int .i64 a0_7, .int .i64 a0_8, .int .i64 a0_9, .int .i64 a0_10] 25 (0, 0))) ∧ Aside0 (w'.heap[gb423]? = some (.cells #[.int .i64 a1_0, .int .i64 a1_1] 23 (0, 0))) ∧ Aside0 (w'.heap[gb428]? = some (.cells #[.int .i64 t425, .int .i64 t426] 23 (0, 0))) ∧ Aside0 (w'.heap[gb429]? = some (.cells #[.string a0_0, .int .i64 (wrap64 (a0_1 + 1)), .int .i64 a0_2, .int .i64 a0_3, .int .i64 a0_4, .int .i64 a0_5, .int .i64 a0_6, .int .i64 a0_7, .int .i64 a0_8, .int .i64 a0_9, .int .i64 a0_10] 25 (0, 0))) ∧ Aside0 (Below w.heap.size w w')) ⟨bu_ BK422, bu_ BK423, bu_ BK428, bq_ BK429 (e := by simp), ⟨bf HB⟩⟩ ?_
        (try clear hcz39); (try clear hcz40); (try clear hcz45); (try clear hcz46); (try clear hcz51); (try clear hcz52)
        rintro w1_ ⟨BK422, BK423, BK428, BK429, HB⟩
        have hcy4221 := X.k11 BK422
        have hcy4231 := X.k2 BK423
        have hcy4291 := X.k11 BK429
        go_upto_region 9 with (first | ((with_reducible refine gc 6 rfl ?_); refine gm_ (some 71) rfl rfl Tryd.func6 (demand_Ratio.calls kj2 _ (wrap64 (a0_1 + 1)) _ _ _ _ _ _ _ _ _ _ _ _ _ _ _ A35.out (tt GT)) ag ?_; intro w53 hb; replace BK422 := bb BK422 hb; replace BK423 := bb BK423 hb; replace BK428 := bb BK428 hb; replace BK429 := bb BK429 hb; replace HB := bs HB hb; (try clear hb)) | ((with_reducible refine gd 8 rfl ?_); refine bx_ 8 23 #[.int .i64 0, .int .i64 0] rfl rfl ?_; intro gb433 hg w54 BK433 hb; have GE433 := bz HB hg; have ⟨NB422_433, NB433_422⟩ := nb BK422 hg; have ⟨NB423_433, NB433_423⟩ := nb BK423 hg; have ⟨NB428_433, NB433_428⟩ := nb BK428 hg; have ⟨NB429_433, NB433_429⟩ := nb BK429 hg; replace BK422 := bb BK422 hb; replace BK423 := bb BK423 hb; replace BK428 := bb BK428 hb; replace BK429 := bb BK429 hb; replace HB := bs HB hb; clear hb hg; have hnb55 := nn NB433_422; have hnb56 := nn NB433_423; have hnb57 := nn NB433_428; have hnb58 := nn NB433_429; have hcz59 := X.k2 BK433; have hcz60 := X.k11 BK422) | ((with_reducible refine gd 10 rfl ?_); refine bx_ 10 25 #[.string (⟨#[]⟩ : ByteArray), .int .i64 0, .int .i64 0, .int .i64 0, .int .i64 0, .int .i64 0, .int .i64 0, .int .i64 0, .int .i64 0, .int .i64 0, .int .i64 0] rfl rfl ?_; intro gb434 hg w61 BK434 hb; have GE434 := bz HB hg; have ⟨NB422_434, NB434_422⟩ := nb BK422 hg; have ⟨NB423_434, NB434_423⟩ := nb BK423 hg; have ⟨NB428_434, NB434_428⟩ := nb BK428 hg; have ⟨NB429_434, NB434_429⟩ := nb BK429 hg; have NB433_434 := Aside0.mk ((by rw [hg]; exact Nat.ne_of_lt (blk_lt (g := gb433) (o := .cells #[.int .i64 t430, .int .i64 t431] 23 (0, 0)) (br_ BK433)) : gb433 ≠ gb434)); have NB434_433 := Aside0.mk ((by rw [hg]; exact Nat.ne_of_gt (blk_lt (g := gb433) (o := .cells #[.int .i64 t430, .int .i64 t431] 23 (0, 0)) (br_ BK433)) : gb434 ≠ gb433)); replace BK422 := bb BK422 hb; replace BK423 := bb BK423 hb; replace BK428 := bb BK428 hb; replace BK429 := bb BK429 hb; replace BK433 := bp_ #[.int .i64 t430, .int .i64 t431] BK433 hb; replace HB := bs HB hb; clear hb hg; have hnb62 := nn NB434_422; have hnb63 := nn NB434_423; have hnb64 := nn NB434_428; have hnb65 := nn NB434_429; have hnb66 := nn NB434_433; have hcz67 := X.k11 BK434; have hcz68 := X.k2 BK423))
        refine gen1_ (φ := fun w' => Aside0 (w'.heap[gb422]? = some (.cells #[.string a0_0, .int .i64 a0_1, .int .i64 a0_2, .int .i64 a0_3, .int .i64 a0_4, .int .i64 a0_5, .int .i64 a0_6, .int .i64 a0_7, .int .i64 a0_8, .int .i64 a0_9, .int .i64 a0_10] 25 (0, 0))) ∧ Aside0 (w'.heap[gb423]? = some (.cells #[.int .i64 a1_0, .int .i64 a1_1] 23 (0, 0))) ∧ Aside0 (w'.heap[gb428]? = some (.cells #[.int .i64 t425, .int .i64 t426] 23 (0, 0))) ∧ Aside0 (w'.heap[gb429]? = some (.cells #[.string a0_0, .int .i64 (wrap64 (a0_1 + 1)), .int .i64 a0_2, .int .i64 a0_3, .int .i64 a0_4, .int .i64 a0_5, .int .i64 a0_6, .int .i64 a0_7, .int .i64 a0_8, .int .i64 a0_9, .int .i64 a0_10] 25 (0, 0))) ∧ Aside0 (w'.heap[gb433]? = some (.cells #[.int .i64 t430, .int .i64 t431] 23 (0, 0))) ∧ Aside0 (w'.heap[gb434]? = some (.cells #[.string a0_0, .int .i64 a0_1, .int .i64 (wrap64 (a0_2 + 1)), .int .i64 a0_3, .int .i64 a0_4, .int .i64 a0_5, .int .i64 a0_6, .int .i64 a0_7, .int .i64 a0_8, .int .i64 a0_9, .int .i64 a0_10] 25 (0, 0))) ∧ Aside0 (Below w.heap.size w w')) ⟨bu_ BK422, bu_ BK423, bu_ BK428, bu_ BK429, bu_ BK433, bq_ BK434 (e := by simp), ⟨bf HB⟩⟩ ?_
        (try clear hcy4221); (try clear hcy4231); (try clear hcy4291); (try clear hcz59); (try clear hcz60); (try clear hcz67); (try clear hcz68)
        rintro w2_ ⟨BK422, BK423, BK428, BK429, BK433, BK434, HB⟩
        have hcy4222 := X.k11 BK422
        have hcy4232 := X.k2 BK423
        have hcy4342 := X.k11 BK434
        go_upto_region 10 with (first | ((with_reducible refine gc 6 rfl ?_); refine gm_ (some 82) rfl rfl Tryd.func6 (demand_Ratio.calls kj2 _ _ (wrap64 (a0_2 + 1)) _ _ _ _ _ _ _ _ _ _ _ _ _ _ A36.out (tt GT)) ag ?_; intro w69 hb; replace BK422 := bb BK422 hb; replace BK423 := bb BK423 hb; replace BK428 := bb BK428 hb; replace BK429 := bb BK429 hb; replace BK433 := bb BK433 hb; replace BK434 := bb BK434 hb; replace HB := bs HB hb; (try clear hb)) | ((with_reducible refine gd 11 rfl ?_); refine bx_ 11 23 #[.int .i64 0, .int .i64 0] rfl rfl ?_; intro gb438 hg w70 BK438 hb; have GE438 := bz HB hg; have ⟨NB422_438, NB438_422⟩ := nb BK422 hg; have ⟨NB423_438, NB438_423⟩ := nb BK423 hg; have ⟨NB428_438, NB438_428⟩ := nb BK428 hg; have ⟨NB429_438, NB438_429⟩ := nb BK429 hg; have ⟨NB433_438, NB438_433⟩ := nb BK433 hg; have ⟨NB434_438, NB438_434⟩ := nb BK434 hg; replace BK422 := bb BK422 hb; replace BK423 := bb BK423 hb; replace BK428 := bb BK428 hb; replace BK429 := bb BK429 hb; replace BK433 := bb BK433 hb; replace BK434 := bb BK434 hb; replace HB := bs HB hb; clear hb hg; have hnb71 := nn NB438_422; have hnb72 := nn NB438_423; have hnb73 := nn NB438_428; have hnb74 := nn NB438_429; have hnb75 := nn NB438_433; have hnb76 := nn NB438_434; have hcz77 := X.k2 BK438))
        (try simp only [Act.put, si, s0, s1])
        go_cut [110] (fun v110 wc => ∃ (kq : Nat) (x110_36 : Bool), v110 = .bool x110_36 ∧ Aside0 (carrefourlaw09_DemandGrows.j1 kq x110_36 a0_0 a0_1 a0_2 a0_3 a0_4 a0_5 a0_6 a0_7 a0_8 a0_9 a0_10 a1_0 a1_1 = some r) ∧ Aside0 (kq ≤ kj2) ∧ Aside0 (wc.heap[gb422]? = some (.cells #[.string a0_0, .int .i64 a0_1, .int .i64 a0_2, .int .i64 a0_3, .int .i64 a0_4, .int .i64 a0_5, .int .i64 a0_6, .int .i64 a0_7, .int .i64 a0_8, .int .i64 a0_9, .int .i64 a0_10] 25 (0, 0))) ∧ Aside0 (wc.heap[gb423]? = some (.cells #[.int .i64 a1_0, .int .i64 a1_1] 23 (0, 0))) ∧ Aside0 (wc.heap[gb428]? = some (.cells #[.int .i64 t425, .int .i64 t426] 23 (0, 0))) ∧ Aside0 (wc.heap[gb429]? = some (.cells #[.string a0_0, .int .i64 (wrap64 (a0_1 + 1)), .int .i64 a0_2, .int .i64 a0_3, .int .i64 a0_4, .int .i64 a0_5, .int .i64 a0_6, .int .i64 a0_7, .int .i64 a0_8, .int .i64 a0_9, .int .i64 a0_10] 25 (0, 0))) ∧ Aside0 (wc.heap[gb433]? = some (.cells #[.int .i64 t430, .int .i64 t431] 23 (0, 0))) ∧ Aside0 (wc.heap[gb434]? = some (.cells #[.string a0_0, .int .i64 a0_1, .int .i64 (wrap64 (a0_2 + 1)), .int .i64 a0_3, .int .i64 a0_4, .int .i64 a0_5, .int .i64 a0_6, .int .i64 a0_7, .int .i64 a0_8, .int .i64 a0_9, .int .i64 a0_10] 25 (0, 0))) ∧ Aside0 (wc.heap[gb438]? = some (.cells #[.int .i64 t435, .int .i64 t436] 23 (0, 0))) ∧ Aside0 (Below w.heap.size w wc))
        case first =>
          have H := HC37.out
          clear HC37
          by_cases c78 : t427 = 0
          · rw [if_pos c78] at H
            have c78b0 : (t427 == 0) = true := beq_iff_eq.mpr c78
            have c78b1 : (t427 != 0) = false := bne_eq_false_iff_eq.mpr c78
            clear c78
            (first | rw [c78b0] | (simp only [i64_w, i32_w]; rw [c78b0]) | skip)
            by_cases c79 : t432 = 0
            · rw [if_pos c79] at H
              have c79b0 : (t432 == 0) = true := beq_iff_eq.mpr c79
              have c79b1 : (t432 != 0) = false := bne_eq_false_iff_eq.mpr c79
              clear c79
              replace H := bi_ H; obtain ⟨t439, A80, H⟩ := H
              (try dsimp only at H)
              by_cases c81 : t439 > 0
              · rw [if_pos c81] at H
                have c81b0 : decide (0 < t439) = true := decide_eq_true c81
                clear c81
                have H' := Aside0.mk H
                clear H
                have hnb82 := nn NB428_422
                have hnb83 := nn NB428_423
                have hnb84 := nn NB428_429
                have hnb85 := nn NB428_433
                have hnb86 := nn NB428_434
                have hnb87 := nn NB428_438
                have hcz88 := X.k2 BK428
                have hnb89 := nn NB433_422
                have hnb90 := nn NB433_423
                have hnb91 := nn NB433_429
                have hnb92 := nn NB433_434
                have hnb93 := nn NB433_438
                have hcz94 := X.k2 BK433
                go_wp2_with (first | (go_at_call 7; (with_reducible refine (carrefourref02_Cmp.calls kj2 _ _ _ _ _ _ A80.out).mono ?_); rintro e w95 ⟨rfl, hb⟩; replace BK422 := bb BK422 hb; replace BK423 := bb BK423 hb; replace BK428 := bb BK428 hb; replace BK429 := bb BK429 hb; replace BK433 := bb BK433 hb; replace BK434 := bb BK434 hb; replace BK438 := bp_ #[.int .i64 t435, .int .i64 t436] BK438 hb; replace HB := bs HB hb; (try clear hb)))
                go_meet
                case rel => exact ⟨_, (true), (aq), H', ⟨by have := HJ2.out; first | omega | exact Nat.le_refl _⟩, bu_ BK422, bu_ BK423, bu_ BK428, bu_ BK429, bu_ BK433, bu_ BK434, bu_ BK438, ⟨bf HB⟩⟩
              · rw [if_neg c81] at H
                have c81b0 : decide (0 < t439) = false := decide_eq_false c81
                clear c81
                by_cases c96 : t437 = 0
                · rw [if_pos c96] at H
                  have c96b0 : (t437 == 0) = true := beq_iff_eq.mpr c96
                  have c96b1 : (t437 != 0) = false := bne_eq_false_iff_eq.mpr c96
                  clear c96
                  replace H := bi_ H; obtain ⟨t440, A97, H⟩ := H
                  (try dsimp only at H)
                  have H' := Aside0.mk H
                  clear H
                  have hnb98 := nn NB428_422
                  have hnb99 := nn NB428_423
                  have hnb100 := nn NB428_429
                  have hnb101 := nn NB428_433
                  have hnb102 := nn NB428_434
                  have hnb103 := nn NB428_438
                  have hcz104 := X.k2 BK428
                  have hnb105 := nn NB433_422
                  have hnb106 := nn NB433_423
                  have hnb107 := nn NB433_429
                  have hnb108 := nn NB433_434
                  have hnb109 := nn NB433_438
                  have hcz110 := X.k2 BK433
                  go_wp2_with (first | (go_at_call 7; (with_reducible refine (carrefourref02_Cmp.calls kj2 _ _ _ _ _ _ A80.out).mono ?_); rintro e w111 ⟨rfl, hb⟩; replace BK422 := bb BK422 hb; replace BK423 := bb BK423 hb; replace BK428 := bb BK428 hb; replace BK429 := bb BK429 hb; replace BK433 := bb BK433 hb; replace BK434 := bb BK434 hb; replace BK438 := bp_ #[.int .i64 t435, .int .i64 t436] BK438 hb; replace HB := bs HB hb; (try clear hb); have hnb112 := nn NB438_422; have hnb113 := nn NB438_423; have hnb114 := nn NB438_429; have hnb115 := nn NB438_434; have hcz116 := X.k2 BK438; have hcz117 := X.k2 BK428) | (go_at_call 7; (with_reducible refine (carrefourref02_Cmp.calls kj2 _ _ _ _ _ _ A97.out).mono ?_); rintro e w118 ⟨rfl, hb⟩; replace BK422 := bb BK422 hb; replace BK423 := bb BK423 hb; replace BK428 := bb BK428 hb; replace BK429 := bb BK429 hb; replace BK433 := bb BK433 hb; replace BK434 := bb BK434 hb; replace BK438 := bb BK438 hb; replace HB := bs HB hb; (try clear hb)))
                  go_meet
                  case rel => exact ⟨_, (decide (t440 > 0)), (aq), H', ⟨by have := HJ2.out; first | omega | exact Nat.le_refl _⟩, bu_ BK422, bu_ BK423, bu_ BK428, bu_ BK429, bu_ BK433, bu_ BK434, bu_ BK438, ⟨bf HB⟩⟩
                · rw [if_neg c96] at H
                  have c96b0 : (t437 == 0) = false := beq_eq_false_iff_ne.mpr c96
                  have c96b1 : (t437 != 0) = true := bne_iff_ne.mpr c96
                  have H' := Aside0.mk H
                  clear H
                  have hnb119 := nn NB428_422
                  have hnb120 := nn NB428_423
                  have hnb121 := nn NB428_429
                  have hnb122 := nn NB428_433
                  have hnb123 := nn NB428_434
                  have hnb124 := nn NB428_438
                  have hcz125 := X.k2 BK428
                  have hnb126 := nn NB433_422
                  have hnb127 := nn NB433_423
                  have hnb128 := nn NB433_429
                  have hnb129 := nn NB433_434
                  have hnb130 := nn NB433_438
                  have hcz131 := X.k2 BK433
                  go_wp2_with (first | (go_at_call 7; (with_reducible refine (carrefourref02_Cmp.calls kj2 _ _ _ _ _ _ A80.out).mono ?_); rintro e w132 ⟨rfl, hb⟩; replace BK422 := bb BK422 hb; replace BK423 := bb BK423 hb; replace BK428 := bb BK428 hb; replace BK429 := bb BK429 hb; replace BK433 := bb BK433 hb; replace BK434 := bb BK434 hb; replace BK438 := bp_ #[.int .i64 t435, .int .i64 t436] BK438 hb; replace HB := bs HB hb; (try clear hb)))
                  go_meet
                  case rel => exact ⟨_, (false), (aq), H', ⟨by have := HJ2.out; first | omega | exact Nat.le_refl _⟩, bu_ BK422, bu_ BK423, bu_ BK428, bu_ BK429, bu_ BK433, bu_ BK434, bu_ BK438, ⟨bf HB⟩⟩
            · rw [if_neg c79] at H
              have c79b0 : (t432 == 0) = false := beq_eq_false_iff_ne.mpr c79
              have c79b1 : (t432 != 0) = true := bne_iff_ne.mpr c79
              by_cases c133 : t437 = 0
              · rw [if_pos c133] at H
                have c133b0 : (t437 == 0) = true := beq_iff_eq.mpr c133
                have c133b1 : (t437 != 0) = false := bne_eq_false_iff_eq.mpr c133
                clear c133
                replace H := bi_ H; obtain ⟨t441, A134, H⟩ := H
                (try dsimp only at H)
                have H' := Aside0.mk H
                clear H
                have hnb135 := nn NB438_422
                have hnb136 := nn NB438_423
                have hnb137 := nn NB438_428
                have hnb138 := nn NB438_429
                have hnb139 := nn NB438_433
                have hnb140 := nn NB438_434
                have hcz141 := X.k2 BK438
                have hnb142 := nn NB428_422
                have hnb143 := nn NB428_423
                have hnb144 := nn NB428_429
                have hnb145 := nn NB428_433
                have hnb146 := nn NB428_434
                have hcz147 := X.k2 BK428
                go_wp2_with (first | (go_at_call 7; (with_reducible refine (carrefourref02_Cmp.calls kj2 _ _ _ _ _ _ A134.out).mono ?_); rintro e w148 ⟨rfl, hb⟩; replace BK422 := bb BK422 hb; replace BK423 := bb BK423 hb; replace BK428 := bb BK428 hb; replace BK429 := bb BK429 hb; replace BK433 := bb BK433 hb; replace BK434 := bb BK434 hb; replace BK438 := bp_ #[.int .i64 t435, .int .i64 t436] BK438 hb; replace HB := bs HB hb; (try clear hb)))
                go_meet
                case rel => exact ⟨_, (decide (t441 > 0)), (aq), H', ⟨by have := HJ2.out; first | omega | exact Nat.le_refl _⟩, bu_ BK422, bu_ BK423, bu_ BK428, bu_ BK429, bu_ BK433, bu_ BK434, bu_ BK438, ⟨bf HB⟩⟩
              · rw [if_neg c133] at H
                have c133b0 : (t437 == 0) = false := beq_eq_false_iff_ne.mpr c133
                have c133b1 : (t437 != 0) = true := bne_iff_ne.mpr c133
                have H' := Aside0.mk H
                clear H
                go_wp2
                go_meet
                case rel => exact ⟨_, (false), (aq), H', ⟨by have := HJ2.out; first | omega | exact Nat.le_refl _⟩, bu_ BK422, bu_ BK423, bu_ BK428, bu_ BK429, bu_ BK433, bu_ BK434, bq_ BK438, ⟨bf HB⟩⟩
          · rw [if_neg c78] at H
            have c78b0 : (t427 == 0) = false := beq_eq_false_iff_ne.mpr c78
            have c78b1 : (t427 != 0) = true := bne_iff_ne.mpr c78
            (first | rw [c78b0] | (simp only [i64_w, i32_w]; rw [c78b0]) | skip)
            have H' := Aside0.mk H
            clear H
            go_wp2
            go_meet
            case rel => exact ⟨_, (false), (aq), H', ⟨by have := HJ2.out; first | omega | exact Nat.le_refl _⟩, bu_ BK422, bu_ BK423, bu_ BK428, bu_ BK429, bu_ BK433, bu_ BK434, bq_ BK438, ⟨bf HB⟩⟩
        case rest =>
          clear HC37
          try clear c1
          try clear c2
          try clear p2
          try clear c3
          try clear c4
          try clear c5
          try clear c6
          try clear c6b0
          try clear p6
          try clear c7
          try clear c8
          try clear c9
          try clear c9b0
          try clear c10
          try clear c11
          try clear c12
          try clear c12b0
          try clear c13
          try clear c14
          try clear c15
          try clear c15b0
          try clear c16
          try clear c18
          try clear c18b0
          try clear c19
          try clear c21
          try clear c21b0
          try clear c22
          try clear c24
          try clear c24b0
          try clear c25
          try clear c28
          try clear c31
          try clear c38
          try clear c43
          try clear c44
          try clear c48
          try clear c49
          try clear c50
          try clear c55
          try clear c56
          try clear c57
          try clear c58
          try clear c62
          try clear c63
          try clear c64
          try clear p64
          try clear c65
          try clear c66
          try clear c71
          try clear c72
          try clear c73
          try clear c74
          try clear c75
          try clear c76
          try clear c78
          try clear c78b0
          try clear c78b1
          try clear c79
          try clear c79b0
          try clear c79b1
          try clear c81
          try clear c81b0
          try clear c82
          try clear c83
          try clear c84
          try clear c85
          try clear c86
          try clear c87
          try clear c89
          try clear c90
          try clear c91
          try clear c92
          try clear c93
          try clear c96
          try clear c96b0
          try clear c96b1
          try clear c98
          try clear c99
          try clear c100
          try clear c101
          try clear c102
          try clear c103
          try clear c105
          try clear c106
          try clear c107
          try clear c108
          try clear c109
          try clear c112
          try clear c113
          try clear c114
          try clear c115
          try clear c119
          try clear c120
          try clear c121
          try clear c122
          try clear c123
          try clear c124
          try clear c126
          try clear c127
          try clear c128
          try clear c129
          try clear c130
          try clear c133
          try clear c133b0
          try clear c133b1
          try clear c135
          try clear c136
          try clear c137
          try clear c138
          try clear c139
          try clear c140
          try clear c142
          try clear c143
          try clear c144
          try clear c145
          try clear c146
          try clear hcz104
          try clear hcz110
          try clear hcz116
          try clear hcz117
          try clear hcz11
          try clear hcz125
          try clear hcz131
          try clear hcz141
          try clear hcz147
          try clear hcz14
          try clear hcz17
          try clear hcz20
          try clear hcz23
          try clear hcz26
          try clear hcz27
          try clear hcz29
          try clear hcz30
          try clear hcz39
          try clear hcz40
          try clear hcz45
          try clear hcz46
          try clear hcz51
          try clear hcz52
          try clear hcz59
          try clear hcz60
          try clear hcz67
          try clear hcz68
          try clear hcz77
          try clear hcz88
          try clear hcz8
          try clear hcz94
          try clear p2
          obtain ⟨kq, x110_36, rfl, HA, HJ36, BK422, BK423, BK428, BK429, BK433, BK434, BK438, HB⟩ := hcut
          cases kq with
          | zero => exact absurd HA.out (by simp [carrefourlaw09_DemandGrows.j1])
          | succ kj36 =>
            have H := HA.out
            clear HA
            simp only [carrefourlaw09_DemandGrows.j1] at H
            by_cases c149 : x110_36 = true
            · subst c149
              have H1 : (some false) = some r := by rw [if_pos rfl] at H; exact H
              clear H
              have H := H1
              clear H1
              obtain rfl := Option.some.inj H
              go_wp2
              go_ret
              exact ⟨ae, bf HB⟩
            · replace c149 := Bool.eq_false_iff.mpr c149
              subst c149
              have H1 : ((demand_Ratio.f kj36 a0_0 0 a0_2 a0_3 a0_4 a0_5 a0_6 a0_7 a0_8 a0_9 a0_10 a1_0 a1_1).bind fun bt443 => (if bt443.2.2 = 0 then (if bt443.1 = 0 then ((carrefourlaw09_awake.f kj36).bind fun t447 => (some t447)) else (some false)) else (some false))) = some r := by rw [if_neg (show ¬ (false = true) by decide)] at H; exact H
              clear H
              have H := H1
              clear H1
              replace H := bi_ H; obtain ⟨⟨t443, t444, t445⟩, A150, H⟩ := H
              (try dsimp only at H)
              have hnb154 := nn NB422_423
              have hnb155 := nn NB422_428
              have hnb156 := nn NB422_429
              have hnb157 := nn NB422_433
              have hnb158 := nn NB422_434
              have hnb159 := nn NB422_438
              have hcz160 := X.k11 BK422
              go_upto_region 14 with (first | ((with_reducible refine gd 13 rfl ?_); refine bx_ 13 25 #[.string (⟨#[]⟩ : ByteArray), .int .i64 0, .int .i64 0, .int .i64 0, .int .i64 0, .int .i64 0, .int .i64 0, .int .i64 0, .int .i64 0, .int .i64 0, .int .i64 0] rfl rfl ?_; intro gb442 hg w161 BK442 hb; have GE442 := bz HB hg; have ⟨NB422_442, NB442_422⟩ := nb BK422 hg; have ⟨NB423_442, NB442_423⟩ := nb BK423 hg; have ⟨NB428_442, NB442_428⟩ := nb BK428 hg; have ⟨NB429_442, NB442_429⟩ := nb BK429 hg; have ⟨NB433_442, NB442_433⟩ := nb BK433 hg; have ⟨NB434_442, NB442_434⟩ := nb BK434 hg; have ⟨NB438_442, NB442_438⟩ := nb BK438 hg; replace BK422 := bb BK422 hb; replace BK423 := bb BK423 hb; replace BK428 := bb BK428 hb; replace BK429 := bb BK429 hb; replace BK433 := bb BK433 hb; replace BK434 := bb BK434 hb; replace BK438 := bb BK438 hb; replace HB := bs HB hb; clear hb hg; have hnb162 := nn NB442_422; have hnb163 := nn NB442_423; have hnb164 := nn NB442_428; have hnb165 := nn NB442_429; have hnb166 := nn NB442_433; have hnb167 := nn NB442_434; have hnb168 := nn NB442_438; have hcz169 := X.k11 BK442; have hnb170 := nn NB423_428; have hnb171 := nn NB423_429; have hnb172 := nn NB423_433; have hnb173 := nn NB423_434; have hnb174 := nn NB423_438; have hcz175 := X.k2 BK423))
              refine gen1_ (φ := fun w' => Aside0 (w'.heap[gb422]? = some (.cells #[.string a0_0, .int .i64 a0_1, .int .i64 a0_2, .int .i64 a0_3, .int .i64 a0_4, .int .i64 a0_5, .int .i64 a0_6, .int .i64 a0_7, .int .i64 a0_8, .int .i64 a0_9, .int .i64 a0_10] 25 (0, 0))) ∧ Aside0 (w'.heap[gb423]? = some (.cells #[.int .i64 a1_0, .int .i64 a1_1] 23 (0, 0))) ∧ Aside0 (w'.heap[gb428]? = some (.cells #[.int .i64 t425, .int .i64 t426] 23 (0, 0))) ∧ Aside0 (w'.heap[gb429]? = some (.cells #[.string a0_0, .int .i64 (wrap64 (a0_1 + 1)), .int .i64 a0_2, .int .i64 a0_3, .int .i64 a0_4, .int .i64 a0_5, .int .i64 a0_6, .int .i64 a0_7, .int .i64 a0_8, .int .i64 a0_9, .int .i64 a0_10] 25 (0, 0))) ∧ Aside0 (w'.heap[gb433]? = some (.cells #[.int .i64 t430, .int .i64 t431] 23 (0, 0))) ∧ Aside0 (w'.heap[gb434]? = some (.cells #[.string a0_0, .int .i64 a0_1, .int .i64 (wrap64 (a0_2 + 1)), .int .i64 a0_3, .int .i64 a0_4, .int .i64 a0_5, .int .i64 a0_6, .int .i64 a0_7, .int .i64 a0_8, .int .i64 a0_9, .int .i64 a0_10] 25 (0, 0))) ∧ Aside0 (w'.heap[gb438]? = some (.cells #[.int .i64 t435, .int .i64 t436] 23 (0, 0))) ∧ Aside0 (w'.heap[gb442]? = some (.cells #[.string a0_0, .int .i64 0, .int .i64 a0_2, .int .i64 a0_3, .int .i64 a0_4, .int .i64 a0_5, .int .i64 a0_6, .int .i64 a0_7, .int .i64 a0_8, .int .i64 a0_9, .int .i64 a0_10] 25 (0, 0))) ∧ Aside0 (Below w.heap.size w w')) ⟨bu_ BK422, bu_ BK423, bu_ BK428, bu_ BK429, bu_ BK433, bu_ BK434, bu_ BK438, bq_ BK442 (e := by simp), ⟨bf HB⟩⟩ ?_
              (try clear hcz160); (try clear hcz169); (try clear hcz175)
              rintro w3_ ⟨BK422, BK423, BK428, BK429, BK433, BK434, BK438, BK442, HB⟩
              have hcy4223 := X.k11 BK422
              have hcy4233 := X.k2 BK423
              have hcy4423 := X.k11 BK442
              go_upto_region 15 with (first | ((with_reducible refine gc 6 rfl ?_); refine gm_ (some 116) rfl rfl Tryd.func6 (demand_Ratio.calls kj36 _ _ _ _ _ _ _ _ _ _ _ _ _ _ _ _ _ A150.out (tt GT)) ag ?_; intro w176 hb; replace BK422 := bb BK422 hb; replace BK423 := bb BK423 hb; replace BK428 := bb BK428 hb; replace BK429 := bb BK429 hb; replace BK433 := bb BK433 hb; replace BK434 := bb BK434 hb; replace BK438 := bb BK438 hb; replace BK442 := bb BK442 hb; replace HB := bs HB hb; (try clear hb)) | ((with_reducible refine gd 14 rfl ?_); refine bx_ 14 23 #[.int .i64 0, .int .i64 0] rfl rfl ?_; intro gb446 hg w177 BK446 hb; have GE446 := bz HB hg; have ⟨NB422_446, NB446_422⟩ := nb BK422 hg; have ⟨NB423_446, NB446_423⟩ := nb BK423 hg; have ⟨NB428_446, NB446_428⟩ := nb BK428 hg; have ⟨NB429_446, NB446_429⟩ := nb BK429 hg; have ⟨NB433_446, NB446_433⟩ := nb BK433 hg; have ⟨NB434_446, NB446_434⟩ := nb BK434 hg; have ⟨NB438_446, NB446_438⟩ := nb BK438 hg; have ⟨NB442_446, NB446_442⟩ := nb BK442 hg; replace BK422 := bb BK422 hb; replace BK423 := bb BK423 hb; replace BK428 := bb BK428 hb; replace BK429 := bb BK429 hb; replace BK433 := bb BK433 hb; replace BK434 := bb BK434 hb; replace BK438 := bb BK438 hb; replace HB := bs HB hb; clear hb hg; have hnb178 := nn NB446_422; have hnb179 := nn NB446_423; have hnb180 := nn NB446_428; have hnb181 := nn NB446_429; have hnb182 := nn NB446_433; have hnb183 := nn NB446_434; have hnb184 := nn NB446_438; have hnb185 := nn NB446_442; have hcz186 := X.k2 BK446))
              by_cases c151 : t445 = 0
              · rw [if_pos c151] at H
                have c151b0 : (t445 == 0) = true := beq_iff_eq.mpr c151
                have c151b1 : (t445 != 0) = false := bne_eq_false_iff_eq.mpr c151
                clear c151
                by_cases c152 : t443 = 0
                · rw [if_pos c152] at H
                  have c152b0 : (t443 == 0) = true := beq_iff_eq.mpr c152
                  have c152b1 : (t443 != 0) = false := bne_eq_false_iff_eq.mpr c152
                  clear c152
                  replace H := bi_ H; obtain ⟨t447, A153, H⟩ := H
                  (try dsimp only at H)
                  obtain rfl := Option.some.inj H
                  go_wp2_with (first | (go_at_call 5; (with_reducible refine (carrefourlaw09_awake.calls kj36 _ _ A153.out (tt GT)).mono ?_); rintro e w187 ⟨rfl, hb⟩; replace BK422 := bb BK422 hb; replace BK423 := bb BK423 hb; replace BK428 := bb BK428 hb; replace BK429 := bb BK429 hb; replace BK433 := bb BK433 hb; replace BK434 := bb BK434 hb; replace BK438 := bb BK438 hb; replace BK446 := bp_ #[.int .i64 t443, .int .i64 t444] BK446 hb; replace HB := bs HB hb; (try clear hb)))
                  go_ret
                  exact ⟨ae, bf HB⟩
                · rw [if_neg c152] at H
                  have c152b0 : (t443 == 0) = false := beq_eq_false_iff_ne.mpr c152
                  have c152b1 : (t443 != 0) = true := bne_iff_ne.mpr c152
                  obtain rfl := Option.some.inj H
                  go_wp2
                  go_ret
                  exact ⟨ae, bf HB⟩
              · rw [if_neg c151] at H
                have c151b0 : (t445 == 0) = false := beq_eq_false_iff_ne.mpr c151
                have c151b1 : (t445 != 0) = true := bne_iff_ne.mpr c151
                obtain rfl := Option.some.inj H
                go_wp2
                go_ret
                exact ⟨ae, bf HB⟩

end Go.Proofs.YtcdaedhphdmnoaaDoor.X
