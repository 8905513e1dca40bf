/- Walks: each '.calls' says that the Go function comes to what its Lean function tells. Conditions: as each theorem's head says. -/
import Derived.Test.YtjgnaccamakpdaaDoorXD
import Derived.Test.YtjgnaccamakpdaaDoorX0
import Derived.Test.YtjgnaccamakpdaaDoorX1
import Derived.Test.YtjgnaccamakpdaaDoorX8
import Derived.Test.YtjgnaccamakpdaaDoorX11
import Derived.Test.YtjgnaccamakpdaaDoorX18
import Derived.Test.YtjgnaccamakpdaaDoorX19
import Derived.Test.YtjgnaccamakpdaaDoorX22
import Derived.Test.YtjgnaccamakpdaaDoorX23
import Derived.Test.YtjgnaccamakpdaaDoorX24
namespace Go.Proofs.YtjgnaccamakpdaaDoor.X
open Go.RowKit Go.Proofs.YtjgnaccamakpdaaDoorW.PrintWords Go.Proofs.YtjgnaccamakpdaaDoorW.PrintLast Go.Proofs.YtjgnaccamakpdaaDoorW.PrintMore
attribute [local go_sem] max2_int min2_int max_two min_two max_three min_three max_four min_four   -- for this text's walks alone
set_option linter.unusedVariables false
set_option maxHeartbeats 8000000
set_option maxRecDepth 100000
set_option linter.unusedSimpArgs false

attribute [local go_sem high] eqA23
/-! ### carrefourlaw02_FracRing: function 5 -/
theorem carrefourlaw02_FracRing.calls (k : Nat) (a0_0 : Int) (a0_1 : Int) (a0_2 : Int) (a0_3 : Int) (a0_4 : Int) (a0_5 : Int) (r : Bool) (w : World) (h : carrefourlaw02_FracRing.f k a0_0 a0_1 a0_2 a0_3 a0_4 a0_5 = some r) (hT : TabOK w) :
    Calls Tryd.prog 5 #[.agg #[.int .i64 a0_0, .int .i64 a0_1, .int .i64 a0_2, .int .i64 a0_3, .int .i64 a0_4, .int .i64 a0_5]] w fun e w' => e = .returned (.bool r) ∧ Below w.heap.size w w' := by
  have GT := Aside0.mk hT
  clear hT
  have hu33 := Tryd.underlying33
  have hu23 := Tryd.underlying23
  have HB := Aside0.mk (Below.refl w.heap.size w)
  have H : ((carrefourlaw02_sum_fn10.f k a0_0 a0_1 a0_2 a0_3 a0_4 a0_5).bind fun t744 => (if t744 = true then ((carrefourlaw02_sum_fn21.f k a0_0 a0_1 a0_2 a0_3 a0_4 a0_5).bind fun t745 => (carrefourlaw02_FracRing.j0 k (!t745) a0_0 a0_1 a0_2 a0_3 a0_4 a0_5)) else (carrefourlaw02_FracRing.j0 k true a0_0 a0_1 a0_2 a0_3 a0_4 a0_5))) = some r := h
  clear h
  have HC2 := Aside0.mk H
  clear H
  go_enter Tryd.func5, Tryd.ntmps5
  go_upto_region 1 with (first | ((with_reducible refine gd 1 rfl ?_); refine bx_ 1 33 #[.int .i64 a0_0, .int .i64 a0_1, .int .i64 a0_2, .int .i64 a0_3, .int .i64 a0_4, .int .i64 a0_5] rfl rfl ?_; intro gb743 hg w3 BK743 hb; have GE743 := bz HB hg; replace HB := bs HB hb; clear hb hg))
  (try simp only [Act.put, si, s0, s1])
  go_cut [22] (fun v22 wc => ∃ (kq : Nat) (x22_1 : Bool), v22 = .bool x22_1 ∧ Aside0 (carrefourlaw02_FracRing.j0 kq x22_1 a0_0 a0_1 a0_2 a0_3 a0_4 a0_5 = some r) ∧ Aside0 (kq ≤ k) ∧ Aside0 (wc.heap[gb743]? = some (.cells #[.int .i64 a0_0, .int .i64 a0_1, .int .i64 a0_2, .int .i64 a0_3, .int .i64 a0_4, .int .i64 a0_5] 33 (0, 0))) ∧ Aside0 (Below w.heap.size w wc))
  case first =>
    have H := HC2.out
    clear HC2
    replace H := bi_ H; obtain ⟨t744, A4, H⟩ := H
    (try dsimp only at H)
    by_cases c5 : t744 = true
    · subst c5
      have H1 : ((carrefourlaw02_sum_fn21.f k a0_0 a0_1 a0_2 a0_3 a0_4 a0_5).bind fun t745 => (carrefourlaw02_FracRing.j0 k (!t745) a0_0 a0_1 a0_2 a0_3 a0_4 a0_5)) = some r := by rw [if_pos rfl] at H; exact H
      clear H
      have H := H1
      clear H1
      replace H := bi_ H; obtain ⟨t745, A6, H⟩ := H
      (try dsimp only at H)
      have H' := Aside0.mk H
      clear H
      have hcz7 := k6 BK743
      go_wp2_with (first | ((with_reducible refine gc 20 rfl ?_); refine gm_ (some 16) rfl rfl Tryd.func20 (carrefourlaw02_sum_fn10.calls _ _ _ _ _ _ _ _ _ A4.out (tt GT)) ag ?_; intro w8 hb; replace BK743 := bb BK743 hb; replace HB := bs HB hb; (try clear hb); have hcz9 := k6 BK743) | (go_at_call 20; (with_reducible refine (carrefourlaw02_sum_fn21.calls _ _ _ _ _ _ _ _ _ A6.out (tt GT)).mono ?_); rintro e w10 ⟨rfl, hb⟩; replace BK743 := bb BK743 hb; replace HB := bs HB hb; (try clear hb)))
      go_meet
      case rel => exact ⟨_, (!t745), (aq), H', ⟨by first | omega | exact Nat.le_refl _⟩, bu_ BK743, ⟨bf HB⟩⟩
    · replace c5 := Bool.eq_false_iff.mpr c5
      subst c5
      have H1 : (carrefourlaw02_FracRing.j0 k true a0_0 a0_1 a0_2 a0_3 a0_4 a0_5) = some r := by rw [if_neg (show ¬ (false = true) by decide)] at H; exact H
      clear H
      have H := H1
      clear H1
      have H' := Aside0.mk H
      clear H
      have hcz11 := k6 BK743
      go_wp2_with (first | ((with_reducible refine gc 20 rfl ?_); refine gm_ (some 16) rfl rfl Tryd.func20 (carrefourlaw02_sum_fn10.calls _ _ _ _ _ _ _ _ _ A4.out (tt GT)) ag ?_; intro w12 hb; replace BK743 := bb BK743 hb; replace HB := bs HB hb; (try clear hb)))
      go_meet
      case rel => exact ⟨_, (true), (aq), H', ⟨by first | omega | exact Nat.le_refl _⟩, bu_ BK743, ⟨bf HB⟩⟩
  case rest =>
    clear HC2
    try clear p2
    try clear c5
    try clear c9
    try clear hcz11
    try clear hcz7
    try clear hcz9
    obtain ⟨kq, x22_1, rfl, HA, HJ1, BK743, HB⟩ := hcut
    cases kq with
    | zero => exact absurd HA.out (by simp [carrefourlaw02_FracRing.j0])
    | succ kj1 =>
      have H := HA.out
      clear HA
      simp only [carrefourlaw02_FracRing.j0] at H
      by_cases c13 : x22_1 = true
      · subst c13
        have H1 : (some false) = some r := by rw [if_pos rfl] at H; exact H
        clear H
        have H := H1
        clear H1
        obtain rfl := Option.some.inj H
        go_wp2
        go_ret
        exact ⟨ae, bf HB⟩
      · replace c13 := Bool.eq_false_iff.mpr c13
        subst c13
        have H1 : ((frac_Add.f kj1 a0_0 a0_1 a0_2 a0_3).bind fun bt746 => ((frac_Mul.f kj1 bt746.1 bt746.2.1 a0_4 a0_5).bind fun bt750 => ((frac_Mul.f kj1 a0_0 a0_1 a0_4 a0_5).bind fun bt754 => ((frac_Mul.f kj1 a0_2 a0_3 a0_4 a0_5).bind fun bt758 => ((frac_Add.f kj1 bt754.1 bt754.2.1 bt758.1 bt758.2.1).bind fun bt762 => (if bt746.2.2 = 0 then (if bt750.2.2 = 0 then (if bt754.2.2 = 0 then (if bt758.2.2 = 0 then (if bt762.2.2 = 0 then (carrefourlaw02_FracRing.j1 kj1 bt746.2.2 (!(bt750.1 == bt762.1) || (!(bt750.2.1 == bt762.2.1))) a0_0 a0_1 a0_2 a0_3 a0_4 a0_5 bt746.1 bt746.2.1) else (carrefourlaw02_FracRing.j1 kj1 bt746.2.2 false a0_0 a0_1 a0_2 a0_3 a0_4 a0_5 bt746.1 bt746.2.1)) else (carrefourlaw02_FracRing.j1 kj1 bt746.2.2 false a0_0 a0_1 a0_2 a0_3 a0_4 a0_5 bt746.1 bt746.2.1)) else (carrefourlaw02_FracRing.j1 kj1 bt746.2.2 false a0_0 a0_1 a0_2 a0_3 a0_4 a0_5 bt746.1 bt746.2.1)) else (carrefourlaw02_FracRing.j1 kj1 bt746.2.2 false a0_0 a0_1 a0_2 a0_3 a0_4 a0_5 bt746.1 bt746.2.1)) else (carrefourlaw02_FracRing.j1 kj1 bt746.2.2 false a0_0 a0_1 a0_2 a0_3 a0_4 a0_5 bt746.1 bt746.2.1))))))) = some r := by rw [if_neg (show ¬ (false = true) by decide)] at H; exact H
        clear H
        have H := H1
        clear H1
        replace H := bi_ H; obtain ⟨⟨t746, t747, t748⟩, A14, H⟩ := H
        (try dsimp only at H)
        replace H := bi_ H; obtain ⟨⟨t750, t751, t752⟩, A15, H⟩ := H
        (try dsimp only at H)
        replace H := bi_ H; obtain ⟨⟨t754, t755, t756⟩, A16, H⟩ := H
        (try dsimp only at H)
        replace H := bi_ H; obtain ⟨⟨t758, t759, t760⟩, A17, H⟩ := H
        (try dsimp only at H)
        replace H := bi_ H; obtain ⟨⟨t762, t763, t764⟩, A18, H⟩ := H
        (try dsimp only at H)
        have HC19 := Aside0.mk H
        clear H
        have hcz20 := k6 BK743
        go_upto_region 8 with (first | ((with_reducible refine gc 10 rfl ?_); refine gm_ (some 28) rfl rfl Tryd.func10 (frac_Add.calls kj1 _ _ _ _ _ _ _ _ A14.out (tt GT)) ag ?_; intro w21 hb; replace BK743 := bb BK743 hb; replace HB := bs HB hb; (try clear hb)) | ((with_reducible refine gd 3 rfl ?_); refine bx_ 3 23 #[.int .i64 0, .int .i64 0] rfl rfl ?_; intro gb749 hg w22 BK749 hb; have GE749 := bz HB hg; have ⟨NB743_749, NB749_743⟩ := nb BK743 hg; replace BK743 := bb BK743 hb; replace HB := bs HB hb; clear hb hg; have hnb23 := nn NB749_743; have hcz24 := k2 BK749; have hcz25 := k6 BK743) | ((with_reducible refine gc 21 rfl ?_); refine gm_ (some 35) rfl rfl Tryd.func21 (frac_Mul.calls kj1 _ _ _ _ _ _ _ _ A15.out (tt GT)) ag ?_; intro w26 hb; replace BK743 := bb BK743 hb; replace BK749 := bp_ #[.int .i64 t746, .int .i64 t747] BK749 hb; replace HB := bs HB hb; (try clear hb)) | ((with_reducible refine gd 5 rfl ?_); refine bx_ 5 23 #[.int .i64 0, .int .i64 0] rfl rfl ?_; intro gb753 hg w27 BK753 hb; have GE753 := bz HB hg; have ⟨NB743_753, NB753_743⟩ := nb BK743 hg; have ⟨NB749_753, NB753_749⟩ := nb BK749 hg; replace BK743 := bb BK743 hb; replace BK749 := bb BK749 hb; replace HB := bs HB hb; clear hb hg; have hnb28 := nn NB753_743; have hnb29 := nn NB753_749; have hcz30 := k2 BK753; have hcz31 := k6 BK743) | ((with_reducible refine gc 21 rfl ?_); refine gm_ (some 43) rfl rfl Tryd.func21 (frac_Mul.calls kj1 _ _ _ _ _ _ _ _ A16.out (tt GT)) ag ?_; intro w32 hb; replace BK743 := bb BK743 hb; replace BK749 := bb BK749 hb; replace BK753 := bp_ #[.int .i64 t750, .int .i64 t751] BK753 hb; replace HB := bs HB hb; (try clear hb)) | ((with_reducible refine gd 7 rfl ?_); refine bx_ 7 23 #[.int .i64 0, .int .i64 0] rfl rfl ?_; intro gb757 hg w33 BK757 hb; have GE757 := bz HB hg; have ⟨NB743_757, NB757_743⟩ := nb BK743 hg; have ⟨NB749_757, NB757_749⟩ := nb BK749 hg; have ⟨NB753_757, NB757_753⟩ := nb BK753 hg; replace BK743 := bb BK743 hb; replace BK749 := bb BK749 hb; replace BK753 := bb BK753 hb; replace HB := bs HB hb; clear hb hg; have hnb34 := nn NB757_743; have hnb35 := nn NB757_749; have hnb36 := nn NB757_753; have hcz37 := k2 BK757; have hcz38 := k6 BK743) | ((with_reducible refine gc 21 rfl ?_); refine gm_ (some 51) rfl rfl Tryd.func21 (frac_Mul.calls kj1 _ _ _ _ _ _ _ _ A17.out (tt GT)) ag ?_; intro w39 hb; replace BK743 := bb BK743 hb; replace BK749 := bb BK749 hb; replace BK753 := bb BK753 hb; replace BK757 := bp_ #[.int .i64 t754, .int .i64 t755] BK757 hb; replace HB := bs HB hb; (try clear hb)) | ((with_reducible refine gd 9 rfl ?_); refine bx_ 9 23 #[.int .i64 0, .int .i64 0] rfl rfl ?_; intro gb761 hg w40 BK761 hb; have GE761 := bz HB hg; have ⟨NB743_761, NB761_743⟩ := nb BK743 hg; have ⟨NB749_761, NB761_749⟩ := nb BK749 hg; have ⟨NB753_761, NB761_753⟩ := nb BK753 hg; have ⟨NB757_761, NB761_757⟩ := nb BK757 hg; replace BK743 := bb BK743 hb; replace BK749 := bb BK749 hb; replace BK753 := bb BK753 hb; replace BK757 := bb BK757 hb; replace HB := bs HB hb; clear hb hg; have hnb41 := nn NB761_743; have hnb42 := nn NB761_749; have hnb43 := nn NB761_753; have hnb44 := nn NB761_757; have hcz45 := k2 BK761; have hcz46 := k2 BK757) | ((with_reducible refine gc 10 rfl ?_); refine gm_ (some 57) rfl rfl Tryd.func10 (frac_Add.calls kj1 _ _ _ _ _ _ _ _ A18.out (tt GT)) ag ?_; intro w47 hb; replace BK743 := bb BK743 hb; replace BK749 := bb BK749 hb; replace BK753 := bb BK753 hb; replace BK757 := bb BK757 hb; replace BK761 := bp_ #[.int .i64 t758, .int .i64 t759] BK761 hb; replace HB := bs HB hb; (try clear hb)) | ((with_reducible refine gd 11 rfl ?_); refine bx_ 11 23 #[.int .i64 0, .int .i64 0] rfl rfl ?_; intro gb765 hg w48 BK765 hb; have GE765 := bz HB hg; have ⟨NB743_765, NB765_743⟩ := nb BK743 hg; have ⟨NB749_765, NB765_749⟩ := nb BK749 hg; have ⟨NB753_765, NB765_753⟩ := nb BK753 hg; have ⟨NB757_765, NB765_757⟩ := nb BK757 hg; have ⟨NB761_765, NB765_761⟩ := nb BK761 hg; replace BK743 := bb BK743 hb; replace BK749 := bb BK749 hb; replace BK753 := bb BK753 hb; replace BK757 := bb BK757 hb; replace BK761 := bb BK761 hb; replace HB := bs HB hb; clear hb hg; have hnb49 := nn NB765_743; have hnb50 := nn NB765_749; have hnb51 := nn NB765_753; have hnb52 := nn NB765_757; have hnb53 := nn NB765_761; have hcz54 := k2 BK765))
        (try simp only [Act.put, si, s0, s1])
        go_cut [82] (fun v82 wc => ∃ (kq : Nat) (x82_18 : Bool), v82 = .bool x82_18 ∧ Aside0 (carrefourlaw02_FracRing.j1 kq t748 x82_18 a0_0 a0_1 a0_2 a0_3 a0_4 a0_5 t746 t747 = some r) ∧ Aside0 (kq ≤ kj1) ∧ Aside0 (wc.heap[gb743]? = some (.cells #[.int .i64 a0_0, .int .i64 a0_1, .int .i64 a0_2, .int .i64 a0_3, .int .i64 a0_4, .int .i64 a0_5] 33 (0, 0))) ∧ Aside0 (wc.heap[gb749]? = some (.cells #[.int .i64 t746, .int .i64 t747] 23 (0, 0))) ∧ Aside0 (wc.heap[gb753]? = some (.cells #[.int .i64 t750, .int .i64 t751] 23 (0, 0))) ∧ Aside0 (wc.heap[gb757]? = some (.cells #[.int .i64 t754, .int .i64 t755] 23 (0, 0))) ∧ Aside0 (wc.heap[gb761]? = some (.cells #[.int .i64 t758, .int .i64 t759] 23 (0, 0))) ∧ Aside0 (wc.heap[gb765]? = some (.cells #[.int .i64 t762, .int .i64 t763] 23 (0, 0))) ∧ Aside0 (Below w.heap.size w wc))
        case first =>
          have H := HC19.out
          clear HC19
          by_cases c55 : t748 = 0
          · rw [if_pos c55] at H
            have c55b0 : (t748 == 0) = true := beq_iff_eq.mpr c55
            have c55b1 : (t748 != 0) = false := bne_eq_false_iff_eq.mpr c55
            clear c55
            (first | rw [c55b0] | (simp only [i64_w, i32_w]; rw [c55b0]) | skip)
            by_cases c56 : t752 = 0
            · rw [if_pos c56] at H
              have c56b0 : (t752 == 0) = true := beq_iff_eq.mpr c56
              have c56b1 : (t752 != 0) = false := bne_eq_false_iff_eq.mpr c56
              clear c56
              by_cases c57 : t756 = 0
              · rw [if_pos c57] at H
                have c57b0 : (t756 == 0) = true := beq_iff_eq.mpr c57
                have c57b1 : (t756 != 0) = false := bne_eq_false_iff_eq.mpr c57
                clear c57
                by_cases c58 : t760 = 0
                · rw [if_pos c58] at H
                  have c58b0 : (t760 == 0) = true := beq_iff_eq.mpr c58
                  have c58b1 : (t760 != 0) = false := bne_eq_false_iff_eq.mpr c58
                  clear c58
                  by_cases c59 : t764 = 0
                  · rw [if_pos c59] at H
                    have c59b0 : (t764 == 0) = true := beq_iff_eq.mpr c59
                    have c59b1 : (t764 != 0) = false := bne_eq_false_iff_eq.mpr c59
                    clear c59
                    have H' := Aside0.mk H
                    clear H
                    have hnb60 := nn NB753_743
                    have hnb61 := nn NB753_749
                    have hnb62 := nn NB753_757
                    have hnb63 := nn NB753_761
                    have hnb64 := nn NB753_765
                    have hcz65 := k2 BK753
                    have hnb66 := nn NB765_743
                    have hnb67 := nn NB765_749
                    have hnb68 := nn NB765_757
                    have hnb69 := nn NB765_761
                    have hcz70 := k2 BK765
                    go_wp2
                    go_meet
                    case rel => exact ⟨_, ((!(t750 == t762) || (!(t751 == t763)))), (aq), H', ⟨by have := HJ1.out; first | omega | exact Nat.le_refl _⟩, bu_ BK743, bu_ BK749, bu_ BK753, bu_ BK757, bu_ BK761, bq_ BK765, ⟨bf HB⟩⟩
                  · rw [if_neg c59] at H
                    have c59b0 : (t764 == 0) = false := beq_eq_false_iff_ne.mpr c59
                    have c59b1 : (t764 != 0) = true := bne_iff_ne.mpr c59
                    have H' := Aside0.mk H
                    clear H
                    go_wp2
                    go_meet
                    case rel => exact ⟨_, (false), (aq), H', ⟨by have := HJ1.out; first | omega | exact Nat.le_refl _⟩, bu_ BK743, bu_ BK749, bu_ BK753, bu_ BK757, bu_ BK761, bq_ BK765, ⟨bf HB⟩⟩
                · rw [if_neg c58] at H
                  have c58b0 : (t760 == 0) = false := beq_eq_false_iff_ne.mpr c58
                  have c58b1 : (t760 != 0) = true := bne_iff_ne.mpr c58
                  have H' := Aside0.mk H
                  clear H
                  go_wp2
                  go_meet
                  case rel => exact ⟨_, (false), (aq), H', ⟨by have := HJ1.out; first | omega | exact Nat.le_refl _⟩, bu_ BK743, bu_ BK749, bu_ BK753, bu_ BK757, bu_ BK761, bq_ BK765, ⟨bf HB⟩⟩
              · rw [if_neg c57] at H
                have c57b0 : (t756 == 0) = false := beq_eq_false_iff_ne.mpr c57
                have c57b1 : (t756 != 0) = true := bne_iff_ne.mpr c57
                have H' := Aside0.mk H
                clear H
                go_wp2
                go_meet
                case rel => exact ⟨_, (false), (aq), H', ⟨by have := HJ1.out; first | omega | exact Nat.le_refl _⟩, bu_ BK743, bu_ BK749, bu_ BK753, bu_ BK757, bu_ BK761, bq_ BK765, ⟨bf HB⟩⟩
            · rw [if_neg c56] at H
              have c56b0 : (t752 == 0) = false := beq_eq_false_iff_ne.mpr c56
              have c56b1 : (t752 != 0) = true := bne_iff_ne.mpr c56
              have H' := Aside0.mk H
              clear H
              go_wp2
              go_meet
              case rel => exact ⟨_, (false), (aq), H', ⟨by have := HJ1.out; first | omega | exact Nat.le_refl _⟩, bu_ BK743, bu_ BK749, bu_ BK753, bu_ BK757, bu_ BK761, bq_ BK765, ⟨bf HB⟩⟩
          · rw [if_neg c55] at H
            have c55b0 : (t748 == 0) = false := beq_eq_false_iff_ne.mpr c55
            have c55b1 : (t748 != 0) = true := bne_iff_ne.mpr c55
            (first | rw [c55b0] | (simp only [i64_w, i32_w]; rw [c55b0]) | skip)
            have H' := Aside0.mk H
            clear H
            go_wp2
            go_meet
            case rel => exact ⟨_, (false), (aq), H', ⟨by have := HJ1.out; first | omega | exact Nat.le_refl _⟩, bu_ BK743, bu_ BK749, bu_ BK753, bu_ BK757, bu_ BK761, bq_ BK765, ⟨bf HB⟩⟩
        case rest =>
          clear HC19
          try clear c1
          try clear c2
          try clear p2
          try clear c3
          try clear c4
          try clear c5
          try clear c6
          try clear c9
          try clear c10
          try clear c13
          try clear c21
          try clear c23
          try clear c28
          try clear c29
          try clear c34
          try clear c35
          try clear c36
          try clear c41
          try clear c42
          try clear c43
          try clear c44
          try clear c49
          try clear c50
          try clear c51
          try clear c52
          try clear c53
          try clear c55
          try clear c55b0
          try clear c55b1
          try clear c56
          try clear c56b0
          try clear c56b1
          try clear c57
          try clear c57b0
          try clear c57b1
          try clear c58
          try clear c58b0
          try clear c58b1
          try clear c59
          try clear c59b0
          try clear c59b1
          try clear c60
          try clear c61
          try clear c62
          try clear c63
          try clear c64
          try clear c66
          try clear c67
          try clear c68
          try clear c69
          try clear hcz11
          try clear hcz20
          try clear hcz24
          try clear hcz25
          try clear hcz30
          try clear hcz31
          try clear hcz37
          try clear hcz38
          try clear hcz45
          try clear hcz46
          try clear hcz54
          try clear hcz65
          try clear hcz70
          try clear hcz7
          try clear hcz9
          try clear p2
          obtain ⟨kq, x82_18, rfl, HA, HJ18, BK743, BK749, BK753, BK757, BK761, BK765, HB⟩ := hcut
          cases kq with
          | zero => exact absurd HA.out (by simp [carrefourlaw02_FracRing.j1])
          | succ kj18 =>
            have H := HA.out
            clear HA
            simp only [carrefourlaw02_FracRing.j1] at H
            by_cases c71 : x82_18 = true
            · subst c71
              have H1 : (some false) = some r := by rw [if_pos rfl] at H; exact H
              clear H
              have H := H1
              clear H1
              obtain rfl := Option.some.inj H
              go_wp2
              go_ret
              exact ⟨ae, bf HB⟩
            · replace c71 := Bool.eq_false_iff.mpr c71
              subst c71
              have H1 : ((frac_Sub.f kj18 t746 t747 a0_2 a0_3).bind fun bt766 => (if t748 = 0 then (if bt766.2.2 = 0 then ((frac_Right.f kj18 a0_0 a0_1).bind fun t770 => (if t770 = true then (if (!(bt766.1 == a0_0) || (!(bt766.2.1 == a0_1))) = true then (some false) else ((carrefourlaw02_awake.f kj18).bind fun t771 => (some t771))) else ((carrefourlaw02_awake.f kj18).bind fun t772 => (some t772)))) else ((carrefourlaw02_awake.f kj18).bind fun t773 => (some t773))) else ((carrefourlaw02_awake.f kj18).bind fun t774 => (some t774)))) = some r := by rw [if_neg (show ¬ (false = true) by decide)] at H; exact H
              clear H
              have H := H1
              clear H1
              replace H := bi_ H; obtain ⟨⟨t766, t767, t768⟩, A72, H⟩ := H
              (try dsimp only at H)
              by_cases c73 : t748 = 0
              · rw [if_pos c73] at H
                have c73b0 : (t748 == 0) = true := beq_iff_eq.mpr c73
                have c73b1 : (t748 != 0) = false := bne_eq_false_iff_eq.mpr c73
                clear c73
                by_cases c74 : t768 = 0
                · rw [if_pos c74] at H
                  have c74b0 : (t768 == 0) = true := beq_iff_eq.mpr c74
                  have c74b1 : (t768 != 0) = false := bne_eq_false_iff_eq.mpr c74
                  clear c74
                  replace H := bi_ H; obtain ⟨t770, A75, H⟩ := H
                  (try dsimp only at H)
                  by_cases c76 : t770 = true
                  · subst c76
                    have H1 : (if (!(t766 == a0_0) || (!(t767 == a0_1))) = true then (some false) else ((carrefourlaw02_awake.f kj18).bind fun t771 => (some t771))) = some r := by rw [if_pos rfl] at H; exact H
                    clear H
                    have H := H1
                    clear H1
                    by_cases c77 : (!(t766 == a0_0) || (!(t767 == a0_1))) = true
                    · rw [if_pos c77] at H
                      have c77b0 : (!(t766 == a0_0) || (!(t767 == a0_1))) = true := c77
                      clear c77
                      obtain rfl := Option.some.inj H
                      have hnb78 := nn NB749_743
                      have hnb79 := nn NB749_753
                      have hnb80 := nn NB749_757
                      have hnb81 := nn NB749_761
                      have hnb82 := nn NB749_765
                      have hcz83 := k2 BK749
                      have hnb84 := nn NB743_753
                      have hnb85 := nn NB743_757
                      have hnb86 := nn NB743_761
                      have hnb87 := nn NB743_765
                      have hcz88 := k6 BK743
                      go_wp2_with (first | ((with_reducible refine gc 12 rfl ?_); refine gm_ (some 87) rfl rfl Tryd.func12 (frac_Sub.calls kj18 _ _ _ _ _ _ _ _ A72.out (tt GT)) ag ?_; intro w89 hb; replace BK743 := bb BK743 hb; replace BK749 := bb BK749 hb; replace BK753 := bb BK753 hb; replace BK757 := bb BK757 hb; replace BK761 := bb BK761 hb; replace BK765 := bb BK765 hb; replace HB := bs HB hb; (try clear hb)) | ((with_reducible refine gd 13 rfl ?_); refine bx_ 13 23 #[.int .i64 0, .int .i64 0] rfl rfl ?_; intro gb769 hg w90 BK769 hb; have GE769 := bz HB hg; have ⟨NB743_769, NB769_743⟩ := nb BK743 hg; have ⟨NB749_769, NB769_749⟩ := nb BK749 hg; have ⟨NB753_769, NB769_753⟩ := nb BK753 hg; have ⟨NB757_769, NB769_757⟩ := nb BK757 hg; have ⟨NB761_769, NB769_761⟩ := nb BK761 hg; have ⟨NB765_769, NB769_765⟩ := nb BK765 hg; replace BK743 := bb BK743 hb; replace BK749 := bb BK749 hb; replace BK753 := bb BK753 hb; replace BK757 := bb BK757 hb; replace BK761 := bb BK761 hb; replace BK765 := bb BK765 hb; replace HB := bs HB hb; clear hb hg; have hnb91 := nn NB769_743; have hnb92 := nn NB769_749; have hnb93 := nn NB769_753; have hnb94 := nn NB769_757; have hnb95 := nn NB769_761; have hnb96 := nn NB769_765; have hcz97 := k2 BK769; have hcz98 := k6 BK743) | (go_at_call 18; (with_reducible refine (frac_Right.calls kj18 _ _ _ _ A75.out (tt GT)).mono ?_); rintro e w99 ⟨rfl, hb⟩; replace BK743 := bb BK743 hb; replace BK749 := bb BK749 hb; replace BK753 := bb BK753 hb; replace BK757 := bb BK757 hb; replace BK761 := bb BK761 hb; replace BK765 := bb BK765 hb; replace BK769 := bp_ #[.int .i64 t766, .int .i64 t767] BK769 hb; replace HB := bs HB hb; (try clear hb); have hcz100 := k2 BK769; have hcz101 := k6 BK743))
                      go_ret
                      exact ⟨ae, bf HB⟩
                    · rw [if_neg c77] at H
                      have c77b0 : (!(t766 == a0_0) || (!(t767 == a0_1))) = false := by simpa using c77
                      clear c77
                      replace H := bi_ H; obtain ⟨t771, A102, H⟩ := H
                      (try dsimp only at H)
                      obtain rfl := Option.some.inj H
                      have hnb103 := nn NB749_743
                      have hnb104 := nn NB749_753
                      have hnb105 := nn NB749_757
                      have hnb106 := nn NB749_761
                      have hnb107 := nn NB749_765
                      have hcz108 := k2 BK749
                      have hnb109 := nn NB743_753
                      have hnb110 := nn NB743_757
                      have hnb111 := nn NB743_761
                      have hnb112 := nn NB743_765
                      have hcz113 := k6 BK743
                      go_wp2_with (first | ((with_reducible refine gc 12 rfl ?_); refine gm_ (some 87) rfl rfl Tryd.func12 (frac_Sub.calls kj18 _ _ _ _ _ _ _ _ A72.out (tt GT)) ag ?_; intro w114 hb; replace BK743 := bb BK743 hb; replace BK749 := bb BK749 hb; replace BK753 := bb BK753 hb; replace BK757 := bb BK757 hb; replace BK761 := bb BK761 hb; replace BK765 := bb BK765 hb; replace HB := bs HB hb; (try clear hb)) | ((with_reducible refine gd 13 rfl ?_); refine bx_ 13 23 #[.int .i64 0, .int .i64 0] rfl rfl ?_; intro gb769 hg w115 BK769 hb; have GE769 := bz HB hg; have ⟨NB743_769, NB769_743⟩ := nb BK743 hg; have ⟨NB749_769, NB769_749⟩ := nb BK749 hg; have ⟨NB753_769, NB769_753⟩ := nb BK753 hg; have ⟨NB757_769, NB769_757⟩ := nb BK757 hg; have ⟨NB761_769, NB769_761⟩ := nb BK761 hg; have ⟨NB765_769, NB769_765⟩ := nb BK765 hg; replace BK743 := bb BK743 hb; replace BK749 := bb BK749 hb; replace BK753 := bb BK753 hb; replace BK757 := bb BK757 hb; replace BK761 := bb BK761 hb; replace BK765 := bb BK765 hb; replace HB := bs HB hb; clear hb hg; have hnb116 := nn NB769_743; have hnb117 := nn NB769_749; have hnb118 := nn NB769_753; have hnb119 := nn NB769_757; have hnb120 := nn NB769_761; have hnb121 := nn NB769_765; have hcz122 := k2 BK769; have hcz123 := k6 BK743) | (go_at_call 18; (with_reducible refine (frac_Right.calls kj18 _ _ _ _ A75.out (tt GT)).mono ?_); rintro e w124 ⟨rfl, hb⟩; replace BK743 := bb BK743 hb; replace BK749 := bb BK749 hb; replace BK753 := bb BK753 hb; replace BK757 := bb BK757 hb; replace BK761 := bb BK761 hb; replace BK765 := bb BK765 hb; replace BK769 := bp_ #[.int .i64 t766, .int .i64 t767] BK769 hb; replace HB := bs HB hb; (try clear hb); have hcz125 := k2 BK769; have hcz126 := k6 BK743) | ((with_reducible refine gc 15 rfl ?_); refine gm_ (some 107) rfl rfl Tryd.func15 (carrefourlaw02_awake.calls kj18 _ _ A102.out (tt GT)) ag ?_; intro w127 hb; replace BK743 := bb BK743 hb; replace BK749 := bb BK749 hb; replace BK753 := bb BK753 hb; replace BK757 := bb BK757 hb; replace BK761 := bb BK761 hb; replace BK765 := bb BK765 hb; replace HB := bs HB hb; (try clear hb)))
                      go_ret
                      exact ⟨ae, bf HB⟩
                  · replace c76 := Bool.eq_false_iff.mpr c76
                    subst c76
                    have H1 : ((carrefourlaw02_awake.f kj18).bind fun t772 => (some t772)) = some r := by rw [if_neg (show ¬ (false = true) by decide)] at H; exact H
                    clear H
                    have H := H1
                    clear H1
                    replace H := bi_ H; obtain ⟨t772, A128, H⟩ := H
                    (try dsimp only at H)
                    obtain rfl := Option.some.inj H
                    have hnb129 := nn NB749_743
                    have hnb130 := nn NB749_753
                    have hnb131 := nn NB749_757
                    have hnb132 := nn NB749_761
                    have hnb133 := nn NB749_765
                    have hcz134 := k2 BK749
                    have hnb135 := nn NB743_753
                    have hnb136 := nn NB743_757
                    have hnb137 := nn NB743_761
                    have hnb138 := nn NB743_765
                    have hcz139 := k6 BK743
                    go_wp2_with (first | ((with_reducible refine gc 12 rfl ?_); refine gm_ (some 87) rfl rfl Tryd.func12 (frac_Sub.calls kj18 _ _ _ _ _ _ _ _ A72.out (tt GT)) ag ?_; intro w140 hb; replace BK743 := bb BK743 hb; replace BK749 := bb BK749 hb; replace BK753 := bb BK753 hb; replace BK757 := bb BK757 hb; replace BK761 := bb BK761 hb; replace BK765 := bb BK765 hb; replace HB := bs HB hb; (try clear hb)) | ((with_reducible refine gd 13 rfl ?_); refine bx_ 13 23 #[.int .i64 0, .int .i64 0] rfl rfl ?_; intro gb769 hg w141 BK769 hb; have GE769 := bz HB hg; have ⟨NB743_769, NB769_743⟩ := nb BK743 hg; have ⟨NB749_769, NB769_749⟩ := nb BK749 hg; have ⟨NB753_769, NB769_753⟩ := nb BK753 hg; have ⟨NB757_769, NB769_757⟩ := nb BK757 hg; have ⟨NB761_769, NB769_761⟩ := nb BK761 hg; have ⟨NB765_769, NB769_765⟩ := nb BK765 hg; replace BK743 := bb BK743 hb; replace BK749 := bb BK749 hb; replace BK753 := bb BK753 hb; replace BK757 := bb BK757 hb; replace BK761 := bb BK761 hb; replace BK765 := bb BK765 hb; replace HB := bs HB hb; clear hb hg; have hnb142 := nn NB769_743; have hnb143 := nn NB769_749; have hnb144 := nn NB769_753; have hnb145 := nn NB769_757; have hnb146 := nn NB769_761; have hnb147 := nn NB769_765; have hcz148 := k2 BK769; have hcz149 := k6 BK743) | (go_at_call 18; (with_reducible refine (frac_Right.calls kj18 _ _ _ _ A75.out (tt GT)).mono ?_); rintro e w150 ⟨rfl, hb⟩; replace BK743 := bb BK743 hb; replace BK749 := bb BK749 hb; replace BK753 := bb BK753 hb; replace BK757 := bb BK757 hb; replace BK761 := bb BK761 hb; replace BK765 := bb BK765 hb; replace BK769 := bp_ #[.int .i64 t766, .int .i64 t767] BK769 hb; replace HB := bs HB hb; (try clear hb)) | ((with_reducible refine gc 15 rfl ?_); refine gm_ (some 107) rfl rfl Tryd.func15 (carrefourlaw02_awake.calls kj18 _ _ A128.out (tt GT)) ag ?_; intro w151 hb; replace BK743 := bb BK743 hb; replace BK749 := bb BK749 hb; replace BK753 := bb BK753 hb; replace BK757 := bb BK757 hb; replace BK761 := bb BK761 hb; replace BK765 := bb BK765 hb; replace HB := bs HB hb; (try clear hb)))
                    go_ret
                    exact ⟨ae, bf HB⟩
                · rw [if_neg c74] at H
                  have c74b0 : (t768 == 0) = false := beq_eq_false_iff_ne.mpr c74
                  have c74b1 : (t768 != 0) = true := bne_iff_ne.mpr c74
                  replace H := bi_ H; obtain ⟨t773, A152, H⟩ := H
                  (try dsimp only at H)
                  obtain rfl := Option.some.inj H
                  have hnb153 := nn NB749_743
                  have hnb154 := nn NB749_753
                  have hnb155 := nn NB749_757
                  have hnb156 := nn NB749_761
                  have hnb157 := nn NB749_765
                  have hcz158 := k2 BK749
                  have hnb159 := nn NB743_753
                  have hnb160 := nn NB743_757
                  have hnb161 := nn NB743_761
                  have hnb162 := nn NB743_765
                  have hcz163 := k6 BK743
                  go_wp2_with (first | ((with_reducible refine gc 12 rfl ?_); refine gm_ (some 87) rfl rfl Tryd.func12 (frac_Sub.calls kj18 _ _ _ _ _ _ _ _ A72.out (tt GT)) ag ?_; intro w164 hb; replace BK743 := bb BK743 hb; replace BK749 := bb BK749 hb; replace BK753 := bb BK753 hb; replace BK757 := bb BK757 hb; replace BK761 := bb BK761 hb; replace BK765 := bb BK765 hb; replace HB := bs HB hb; (try clear hb)) | ((with_reducible refine gd 13 rfl ?_); refine bx_ 13 23 #[.int .i64 0, .int .i64 0] rfl rfl ?_; intro gb769 hg w165 BK769 hb; have GE769 := bz HB hg; have ⟨NB743_769, NB769_743⟩ := nb BK743 hg; have ⟨NB749_769, NB769_749⟩ := nb BK749 hg; have ⟨NB753_769, NB769_753⟩ := nb BK753 hg; have ⟨NB757_769, NB769_757⟩ := nb BK757 hg; have ⟨NB761_769, NB769_761⟩ := nb BK761 hg; have ⟨NB765_769, NB769_765⟩ := nb BK765 hg; replace BK743 := bb BK743 hb; replace BK749 := bb BK749 hb; replace BK753 := bb BK753 hb; replace BK757 := bb BK757 hb; replace BK761 := bb BK761 hb; replace BK765 := bb BK765 hb; replace HB := bs HB hb; clear hb hg; have hnb166 := nn NB769_743; have hnb167 := nn NB769_749; have hnb168 := nn NB769_753; have hnb169 := nn NB769_757; have hnb170 := nn NB769_761; have hnb171 := nn NB769_765; have hcz172 := k2 BK769) | ((with_reducible refine gc 15 rfl ?_); refine gm_ (some 107) rfl rfl Tryd.func15 (carrefourlaw02_awake.calls kj18 _ _ A152.out (tt GT)) ag ?_; intro w173 hb; replace BK743 := bb BK743 hb; replace BK749 := bb BK749 hb; replace BK753 := bb BK753 hb; replace BK757 := bb BK757 hb; replace BK761 := bb BK761 hb; replace BK765 := bb BK765 hb; replace BK769 := bp_ #[.int .i64 t766, .int .i64 t767] BK769 hb; replace HB := bs HB hb; (try clear hb)))
                  go_ret
                  exact ⟨ae, bf HB⟩
              · rw [if_neg c73] at H
                have c73b0 : (t748 == 0) = false := beq_eq_false_iff_ne.mpr c73
                have c73b1 : (t748 != 0) = true := bne_iff_ne.mpr c73
                replace H := bi_ H; obtain ⟨t774, A174, H⟩ := H
                (try dsimp only at H)
                obtain rfl := Option.some.inj H
                have hnb175 := nn NB749_743
                have hnb176 := nn NB749_753
                have hnb177 := nn NB749_757
                have hnb178 := nn NB749_761
                have hnb179 := nn NB749_765
                have hcz180 := k2 BK749
                have hnb181 := nn NB743_753
                have hnb182 := nn NB743_757
                have hnb183 := nn NB743_761
                have hnb184 := nn NB743_765
                have hcz185 := k6 BK743
                go_wp2_with (first | ((with_reducible refine gc 12 rfl ?_); refine gm_ (some 87) rfl rfl Tryd.func12 (frac_Sub.calls kj18 _ _ _ _ _ _ _ _ A72.out (tt GT)) ag ?_; intro w186 hb; replace BK743 := bb BK743 hb; replace BK749 := bb BK749 hb; replace BK753 := bb BK753 hb; replace BK757 := bb BK757 hb; replace BK761 := bb BK761 hb; replace BK765 := bb BK765 hb; replace HB := bs HB hb; (try clear hb)) | ((with_reducible refine gd 13 rfl ?_); refine bx_ 13 23 #[.int .i64 0, .int .i64 0] rfl rfl ?_; intro gb769 hg w187 BK769 hb; have GE769 := bz HB hg; have ⟨NB743_769, NB769_743⟩ := nb BK743 hg; have ⟨NB749_769, NB769_749⟩ := nb BK749 hg; have ⟨NB753_769, NB769_753⟩ := nb BK753 hg; have ⟨NB757_769, NB769_757⟩ := nb BK757 hg; have ⟨NB761_769, NB769_761⟩ := nb BK761 hg; have ⟨NB765_769, NB769_765⟩ := nb BK765 hg; replace HB := bs HB hb; clear hb hg; have hnb188 := nn NB769_743; have hnb189 := nn NB769_749; have hnb190 := nn NB769_753; have hnb191 := nn NB769_757; have hnb192 := nn NB769_761; have hnb193 := nn NB769_765; have hcz194 := k2 BK769) | ((with_reducible refine gc 15 rfl ?_); refine gm_ (some 107) rfl rfl Tryd.func15 (carrefourlaw02_awake.calls kj18 _ _ A174.out (tt GT)) ag ?_; intro w195 hb; replace BK769 := bp_ #[.int .i64 t766, .int .i64 t767] BK769 hb; replace HB := bs HB hb; (try clear hb)))
                go_ret
                exact ⟨ae, bf HB⟩

end Go.Proofs.YtjgnaccamakpdaaDoor.X
