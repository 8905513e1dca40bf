/- Walks: each '.calls' says that the Go function comes to what its Lean function tells. Conditions: as each theorem's head says. -/
import Derived.Test.YtjgnaccamakpdaaDoorXD
import Derived.Test.YtjgnaccamakpdaaDoorX0
import Derived.Test.YtjgnaccamakpdaaDoorX8
import Derived.Test.YtjgnaccamakpdaaDoorX11
import Derived.Test.YtjgnaccamakpdaaDoorX19
import Derived.Test.YtjgnaccamakpdaaDoorX29
import Derived.Test.YtjgnaccamakpdaaDoorX30
namespace Go.Proofs.YtjgnaccamakpdaaDoor.X
open Go.RowKit Go.Proofs.YtjgnaccamakpdaaDoorW.PrintWords Go.Proofs.YtjgnaccamakpdaaDoorW.PrintLast Go.Proofs.YtjgnaccamakpdaaDoorW.PrintMore
attribute [local go_sem] max2_int min2_int max_two min_two max_three min_three max_four min_four   -- for this text's walks alone
set_option linter.unusedVariables false
set_option maxHeartbeats 8000000
set_option maxRecDepth 100000
set_option linter.unusedSimpArgs false

/-! ### carrefourlaw02_FracRound: function 8 -/
theorem carrefourlaw02_FracRound.calls (k : Nat) (a0_0 : Int) (a0_1 : Int) (r : Bool) (w : World) (h : carrefourlaw02_FracRound.f k a0_0 a0_1 = some r) (hT : TabOK w) :
    Calls Tryd.prog 8 #[.agg #[.int .i64 a0_0, .int .i64 a0_1]] w fun e w' => e = .returned (.bool r) ∧ Below w.heap.size w w' := by
  have GT := Aside0.mk hT
  clear hT
  have hu23 := Tryd.underlying23
  have HB := Aside0.mk (Below.refl w.heap.size w)
  have H : ((frac_Right.f k a0_0 a0_1).bind fun t971 => (if t971 = true then ((frac_Floor.f k a0_0 a0_1).bind fun t975 => ((frac_Ceil.f k a0_0 a0_1).bind fun t976 => ((frac_Cmp.f k t975 1 a0_0 a0_1).bind fun t979 => (if t979 > 0 then (carrefourlaw02_FracRound.j0 k t975 t976 true a0_0 a0_1) else ((frac_Cmp.f k t976 1 a0_0 a0_1).bind fun t980 => (carrefourlaw02_FracRound.j0 k t975 t976 (decide (t980 < 0)) a0_0 a0_1)))))) else ((frac_Floor.f k a0_0 a0_1).bind fun t972 => (if t972 = 0 then ((frac_Ceil.f k a0_0 a0_1).bind fun t973 => (if t973 = 0 then ((carrefourlaw02_awake.f k).bind fun t974 => (some t974)) else (some false))) else (some false))))) = some r := h
  clear h
  replace H := bi_ H; obtain ⟨t971, A2, H⟩ := H
  (try dsimp only at H)
  by_cases c3 : t971 = true
  · subst c3
    have H1 : ((frac_Floor.f k a0_0 a0_1).bind fun t975 => ((frac_Ceil.f k a0_0 a0_1).bind fun t976 => ((frac_Cmp.f k t975 1 a0_0 a0_1).bind fun t979 => (if t979 > 0 then (carrefourlaw02_FracRound.j0 k t975 t976 true a0_0 a0_1) else ((frac_Cmp.f k t976 1 a0_0 a0_1).bind fun t980 => (carrefourlaw02_FracRound.j0 k t975 t976 (decide (t980 < 0)) a0_0 a0_1)))))) = some r := by rw [if_pos rfl] at H; exact H
    clear H
    have H := H1
    clear H1
    replace H := bi_ H; obtain ⟨t975, A4, H⟩ := H
    (try dsimp only at H)
    replace H := bi_ H; obtain ⟨t976, A5, H⟩ := H
    (try dsimp only at H)
    have HC6 := Aside0.mk H
    clear H
    go_enter Tryd.func8, Tryd.ntmps8
    try go_wp2_with (first | ((with_reducible refine gd 1 rfl ?_); refine bx_ 1 23 #[.int .i64 a0_0, .int .i64 a0_1] rfl rfl ?_; intro gb970 hg w7 BK970 hb; have GE970 := bz HB hg; replace HB := bs HB hb; clear hb hg; have hcz8 := k2 BK970) | ((with_reducible refine gc 18 rfl ?_); refine gm_ (some 8) rfl rfl Tryd.func18 (frac_Right.calls _ _ _ _ _ A2.out (tt GT)) ag ?_; intro w9 hb; replace BK970 := bb BK970 hb; replace HB := bs HB hb; (try clear hb)))
    replace BK970 := Aside0.mk (blk_drew BK970.out)
    replace HB := Aside0.mk (below_drew1 HB.out)
    refine start_ (n := 6) (S := fun w' => c_ w' gb970 0 (.int .i64 a0_0) ∧ c_ w' gb970 1 (.int .i64 a0_1)) (ds := []) (m_ 6 0) (by kernel_rfl) rfl rfl ⟨ct BK970 0, ct BK970 1⟩ (fun hHeld => ?_)
    generalize w9.drew = w10 at BK970 HB hHeld ⊢
    refine tk_ 0 (some 21) (m_ 6 1) rfl rfl (by kernel_rfl) hHeld ?_
    refine tk_ 2 (some 23) (m_ 6 5) rfl rfl (by kernel_rfl) hHeld ?_
    refine o1_ 1 (some 22) (m_ 6 7) rfl rfl (by kernel_rfl) (fun K hK => ?_)
    refine gs_ rfl Tryd.func27 (frac_Floor.calls _ _ _ _ _ A4.out (tt GT)) ag ?_
    intro w11 hb
    replace BK970 := bb BK970 hb
    replace HB := bs HB hb
    (try clear hb)
    refine hK.out _ _ ⟨ct BK970 0, ct BK970 1⟩ (fun hHeld => ?_)
    clear hK K
    refine nr_ (some 22) ?_
    refine o1_ 3 (some 24) (m_ 6 15) rfl rfl (by kernel_rfl) (fun K hK => ?_)
    refine gs_ rfl Tryd.func29 (frac_Ceil.calls _ _ _ _ _ A5.out (tt GT)) ag ?_
    intro w12 hb
    replace BK970 := bb BK970 hb
    replace HB := bs HB hb
    (try clear hb)
    refine hK.out _ _ ⟨ct BK970 0, ct BK970 1⟩ (fun hHeld => ?_)
    clear hK K
    refine nr_ (some 24) ?_
    refine pu_ 4 (some 3) (m_ 6 31) rfl rfl (by kernel_rfl) ?_
    refine pu_ 5 (some 4) (m_ 6 63) rfl rfl (by kernel_rfl) ?_
    refine done_ (by kernel_rfl) ?_
    go_upto_region 5 with (first | ((with_reducible refine gd 5 rfl ?_); refine bx_ 5 23 #[.int .i64 0, .int .i64 0] rfl rfl ?_; intro gb977 hg w13 BK977 hb; have GE977 := bz HB hg; have ⟨NB970_977, NB977_970⟩ := nb BK970 hg; replace BK970 := bb BK970 hb; replace HB := bs HB hb; clear hb hg) | ((with_reducible refine gd 6 rfl ?_); refine bx_ 6 23 #[.int .i64 0, .int .i64 0] rfl rfl ?_; intro gb978 hg w14 BK978 hb; have GE978 := bz HB hg; have ⟨NB970_978, NB978_970⟩ := nb BK970 hg; have ⟨NB977_978, NB978_977⟩ := nb BK977 hg; replace BK970 := bb BK970 hb; replace BK977 := bb BK977 hb; replace HB := bs HB hb; clear hb hg; have hnb15 := nn NB977_970; have hnb16 := nn NB977_978; have hcz17 := k2 BK977; have hnb18 := nn NB978_970; have hcz19 := k2 BK978))
    (try simp only [Act.put, si, s0, s1])
    go_cut [38] (fun v38 wc => ∃ (kq : Nat) (x38_5 : Bool), v38 = .bool x38_5 ∧ Aside0 (carrefourlaw02_FracRound.j0 kq t975 t976 x38_5 a0_0 a0_1 = some r) ∧ Aside0 (kq ≤ k) ∧ Aside0 (wc.heap[gb970]? = some (.cells #[.int .i64 a0_0, .int .i64 a0_1] 23 (0, 0))) ∧ Aside0 (wc.heap[gb977]? = some (.cells #[.int .i64 t975, .int .i64 1] 23 (0, 0))) ∧ Aside0 (wc.heap[gb978]? = some (.cells #[.int .i64 t976, .int .i64 1] 23 (0, 0))) ∧ Aside0 (Below w.heap.size w wc))
    case first =>
      have H := HC6.out
      clear HC6
      replace H := bi_ H; obtain ⟨t979, A20, H⟩ := H
      (try dsimp only at H)
      by_cases c21 : t979 > 0
      · rw [if_pos c21] at H
        have c21b0 : decide (0 < t979) = true := decide_eq_true c21
        clear c21
        (first | rw [c21b0] | (simp only [i64_w, i32_w]; rw [c21b0]) | skip)
        have H' := Aside0.mk H
        clear H
        have hnb22 := nn NB977_970
        have hnb23 := nn NB977_978
        have hcz24 := k2 BK977
        have hnb25 := nn NB970_978
        have hcz26 := k2 BK970
        go_wp2_with (first | ((with_reducible refine gc 25 rfl ?_); refine gm_ (some 31) rfl rfl Tryd.func25 (frac_Cmp.calls _ _ _ _ _ _ _ A20.out (tt GT)) ag ?_; intro w27 hb; replace BK970 := bb BK970 hb; replace BK977 := bp_ #[.int .i64 t975, .int .i64 1] BK977 hb; replace BK978 := bp_ #[.int .i64 t976, .int .i64 1] BK978 hb; replace HB := bs HB hb; (try clear hb)))
        go_meet
        case rel => exact ⟨_, (true), (aq), H', ⟨by first | omega | exact Nat.le_refl _⟩, bu_ BK970, bu_ BK977, bu_ BK978, ⟨bf HB⟩⟩
      · rw [if_neg c21] at H
        have c21b0 : decide (0 < t979) = false := decide_eq_false c21
        clear c21
        (first | rw [c21b0] | (simp only [i64_w, i32_w]; rw [c21b0]) | skip)
        replace H := bi_ H; obtain ⟨t980, A28, H⟩ := H
        (try dsimp only at H)
        have H' := Aside0.mk H
        clear H
        have hnb29 := nn NB977_970
        have hnb30 := nn NB977_978
        have hcz31 := k2 BK977
        have hnb32 := nn NB970_978
        have hcz33 := k2 BK970
        go_wp2_with (first | ((with_reducible refine gc 25 rfl ?_); refine gm_ (some 31) rfl rfl Tryd.func25 (frac_Cmp.calls _ _ _ _ _ _ _ A20.out (tt GT)) ag ?_; intro w34 hb; replace BK970 := bb BK970 hb; replace BK977 := bp_ #[.int .i64 t975, .int .i64 1] BK977 hb; replace BK978 := bp_ #[.int .i64 t976, .int .i64 1] BK978 hb; replace HB := bs HB hb; (try clear hb); have hcz35 := k2 BK978; have hcz36 := k2 BK970) | (go_at_call 25; (with_reducible refine (frac_Cmp.calls _ _ _ _ _ _ _ A28.out (tt GT)).mono ?_); rintro e w37 ⟨rfl, hb⟩; replace BK970 := bb BK970 hb; replace BK977 := bb BK977 hb; replace BK978 := bb BK978 hb; replace HB := bs HB hb; (try clear hb)))
        go_meet
        case rel => exact ⟨_, (decide (t980 < 0)), (aq), H', ⟨by first | omega | exact Nat.le_refl _⟩, bu_ BK970, bu_ BK977, bu_ BK978, ⟨bf HB⟩⟩
    case rest =>
      clear HC6
      try clear c1
      try clear c2
      try clear p2
      try clear c3
      try clear c8
      try clear c15
      try clear c16
      try clear c18
      try clear c21
      try clear c21b0
      try clear c22
      try clear c23
      try clear c25
      try clear c27
      try clear c29
      try clear c30
      try clear c32
      try clear hcz17
      try clear hcz19
      try clear hcz24
      try clear hcz26
      try clear hcz31
      try clear hcz33
      try clear hcz35
      try clear hcz36
      try clear hcz8
      obtain ⟨kq, x38_5, rfl, HA, HJ5, BK970, BK977, BK978, HB⟩ := hcut
      cases kq with
      | zero => exact absurd HA.out (by simp [carrefourlaw02_FracRound.j0])
      | succ kj5 =>
        have H := HA.out
        clear HA
        simp only [carrefourlaw02_FracRound.j0] at H
        by_cases c38 : x38_5 = true
        · subst c38
          have H1 : (some false) = some r := by rw [if_pos rfl] at H; exact H
          clear H
          have H := H1
          clear H1
          obtain rfl := Option.some.inj H
          go_wp2
          go_ret
          exact ⟨ae, bf HB⟩
        · replace c38 := Bool.eq_false_iff.mpr c38
          subst c38
          have H1 : (if a0_1 = 1 then (if t975 = a0_0 then (if t976 = a0_0 then ((carrefourlaw02_awake.f kj5).bind fun t981 => (some t981)) else (some false)) else (some false)) else (if (wrap64 (t976 - t975)) = 1 then ((carrefourlaw02_awake.f kj5).bind fun t982 => (some t982)) else (some false))) = some r := by rw [if_neg (show ¬ (false = true) by decide)] at H; exact H
          clear H
          have H := H1
          clear H1
          by_cases c39 : a0_1 = 1
          · rw [if_pos c39] at H
            have c39b0 : (a0_1 == 1) = true := beq_iff_eq.mpr c39
            have c39b1 : (a0_1 != 1) = false := bne_eq_false_iff_eq.mpr c39
            clear c39
            by_cases c40 : t975 = a0_0
            · rw [if_pos c40] at H
              have c40b0 : (t975 == a0_0) = true := beq_iff_eq.mpr c40
              have c40b1 : (t975 != a0_0) = false := bne_eq_false_iff_eq.mpr c40
              clear c40
              by_cases c41 : t976 = a0_0
              · rw [if_pos c41] at H
                have c41b0 : (t976 == a0_0) = true := beq_iff_eq.mpr c41
                have c41b1 : (t976 != a0_0) = false := bne_eq_false_iff_eq.mpr c41
                clear c41
                replace H := bi_ H; obtain ⟨t981, A42, H⟩ := H
                (try dsimp only at H)
                obtain rfl := Option.some.inj H
                have hnb43 := nn NB970_977
                have hnb44 := nn NB970_978
                have hcz45 := k2 BK970
                go_wp2_with (first | (go_at_call 15; (with_reducible refine (carrefourlaw02_awake.calls kj5 _ _ A42.out (tt GT)).mono ?_); rintro e w46 ⟨rfl, hb⟩; replace BK970 := bb BK970 hb; replace HB := bs HB hb; (try clear hb)))
                go_ret
                exact ⟨ae, bf HB⟩
              · rw [if_neg c41] at H
                have c41b0 : (t976 == a0_0) = false := beq_eq_false_iff_ne.mpr c41
                have c41b1 : (t976 != a0_0) = true := bne_iff_ne.mpr c41
                obtain rfl := Option.some.inj H
                have hnb47 := nn NB970_977
                have hnb48 := nn NB970_978
                have hcz49 := k2 BK970
                go_wp2
                go_ret
                exact ⟨ae, bf HB⟩
            · rw [if_neg c40] at H
              have c40b0 : (t975 == a0_0) = false := beq_eq_false_iff_ne.mpr c40
              have c40b1 : (t975 != a0_0) = true := bne_iff_ne.mpr c40
              obtain rfl := Option.some.inj H
              have hnb50 := nn NB970_977
              have hnb51 := nn NB970_978
              have hcz52 := k2 BK970
              go_wp2
              go_ret
              exact ⟨ae, bf HB⟩
          · rw [if_neg c39] at H
            have c39b0 : (a0_1 == 1) = false := beq_eq_false_iff_ne.mpr c39
            have c39b1 : (a0_1 != 1) = true := bne_iff_ne.mpr c39
            by_cases c53 : (wrap64 (t976 - t975)) = 1
            · rw [if_pos c53] at H
              have c53b0 : ((wrap64 (t976 - t975)) == 1) = true := beq_iff_eq.mpr c53
              have c53b1 : ((wrap64 (t976 - t975)) != 1) = false := bne_eq_false_iff_eq.mpr c53
              clear c53
              replace H := bi_ H; obtain ⟨t982, A54, H⟩ := H
              (try dsimp only at H)
              obtain rfl := Option.some.inj H
              have hnb55 := nn NB970_977
              have hnb56 := nn NB970_978
              have hcz57 := k2 BK970
              go_wp2_with (first | (go_at_call 15; (with_reducible refine (carrefourlaw02_awake.calls kj5 _ _ A54.out (tt GT)).mono ?_); rintro e w58 ⟨rfl, hb⟩; replace BK970 := bb BK970 hb; replace HB := bs HB hb; (try clear hb)))
              go_ret
              exact ⟨ae, bf HB⟩
            · rw [if_neg c53] at H
              have c53b0 : ((wrap64 (t976 - t975)) == 1) = false := beq_eq_false_iff_ne.mpr c53
              have c53b1 : ((wrap64 (t976 - t975)) != 1) = true := bne_iff_ne.mpr c53
              obtain rfl := Option.some.inj H
              have hnb59 := nn NB970_977
              have hnb60 := nn NB970_978
              have hcz61 := k2 BK970
              go_wp2
              go_ret
              exact ⟨ae, bf HB⟩
  · replace c3 := Bool.eq_false_iff.mpr c3
    subst c3
    have H1 : ((frac_Floor.f k a0_0 a0_1).bind fun t972 => (if t972 = 0 then ((frac_Ceil.f k a0_0 a0_1).bind fun t973 => (if t973 = 0 then ((carrefourlaw02_awake.f k).bind fun t974 => (some t974)) else (some false))) else (some false))) = some r := by rw [if_neg (show ¬ (false = true) by decide)] at H; exact H
    clear H
    have H := H1
    clear H1
    replace H := bi_ H; obtain ⟨t972, A62, H⟩ := H
    (try dsimp only at H)
    by_cases c63 : t972 = 0
    · rw [if_pos c63] at H
      have c63b0 : (t972 == 0) = true := beq_iff_eq.mpr c63
      have c63b1 : (t972 != 0) = false := bne_eq_false_iff_eq.mpr c63
      clear c63
      replace H := bi_ H; obtain ⟨t973, A64, H⟩ := H
      (try dsimp only at H)
      by_cases c65 : t973 = 0
      · rw [if_pos c65] at H
        have c65b0 : (t973 == 0) = true := beq_iff_eq.mpr c65
        have c65b1 : (t973 != 0) = false := bne_eq_false_iff_eq.mpr c65
        clear c65
        replace H := bi_ H; obtain ⟨t974, A66, H⟩ := H
        (try dsimp only at H)
        obtain rfl := Option.some.inj H
        go_enter Tryd.func8, Tryd.ntmps8
        go_wp2_with (first | ((with_reducible refine gd 1 rfl ?_); refine bx_ 1 23 #[.int .i64 a0_0, .int .i64 a0_1] rfl rfl ?_; intro gb970 hg w67 BK970 hb; have GE970 := bz HB hg; replace HB := bs HB hb; clear hb hg; have hcz68 := k2 BK970) | ((with_reducible refine gc 18 rfl ?_); refine gm_ (some 8) rfl rfl Tryd.func18 (frac_Right.calls _ _ _ _ _ A2.out (tt GT)) ag ?_; intro w69 hb; replace BK970 := bb BK970 hb; replace HB := bs HB hb; (try clear hb); have hcz70 := k2 BK970) | ((with_reducible refine gc 27 rfl ?_); refine gm_ (some 11) rfl rfl Tryd.func27 (frac_Floor.calls _ _ _ _ _ A62.out (tt GT)) ag ?_; intro w71 hb; replace BK970 := bb BK970 hb; replace HB := bs HB hb; (try clear hb); have hcz72 := k2 BK970) | (go_at_call 29; (with_reducible refine (frac_Ceil.calls _ _ _ _ _ A64.out (tt GT)).mono ?_); rintro e w73 ⟨rfl, hb⟩; replace HB := bs HB hb; (try clear hb)) | (go_at_call 15; (with_reducible refine (carrefourlaw02_awake.calls _ _ _ A66.out (tt GT)).mono ?_); rintro e w74 ⟨rfl, hb⟩; replace HB := bs HB hb; (try clear hb)))
        go_ret
        exact ⟨ae, bf HB⟩
      · rw [if_neg c65] at H
        have c65b0 : (t973 == 0) = false := beq_eq_false_iff_ne.mpr c65
        have c65b1 : (t973 != 0) = true := bne_iff_ne.mpr c65
        obtain rfl := Option.some.inj H
        go_enter Tryd.func8, Tryd.ntmps8
        go_wp2_with (first | ((with_reducible refine gd 1 rfl ?_); refine bx_ 1 23 #[.int .i64 a0_0, .int .i64 a0_1] rfl rfl ?_; intro gb970 hg w75 BK970 hb; have GE970 := bz HB hg; replace HB := bs HB hb; clear hb hg; have hcz76 := k2 BK970) | ((with_reducible refine gc 18 rfl ?_); refine gm_ (some 8) rfl rfl Tryd.func18 (frac_Right.calls _ _ _ _ _ A2.out (tt GT)) ag ?_; intro w77 hb; replace BK970 := bb BK970 hb; replace HB := bs HB hb; (try clear hb); have hcz78 := k2 BK970) | ((with_reducible refine gc 27 rfl ?_); refine gm_ (some 11) rfl rfl Tryd.func27 (frac_Floor.calls _ _ _ _ _ A62.out (tt GT)) ag ?_; intro w79 hb; replace BK970 := bb BK970 hb; replace HB := bs HB hb; (try clear hb); have hcz80 := k2 BK970) | (go_at_call 29; (with_reducible refine (frac_Ceil.calls _ _ _ _ _ A64.out (tt GT)).mono ?_); rintro e w81 ⟨rfl, hb⟩; replace HB := bs HB hb; (try clear hb)))
        go_ret
        exact ⟨ae, bf HB⟩
    · rw [if_neg c63] at H
      have c63b0 : (t972 == 0) = false := beq_eq_false_iff_ne.mpr c63
      have c63b1 : (t972 != 0) = true := bne_iff_ne.mpr c63
      obtain rfl := Option.some.inj H
      go_enter Tryd.func8, Tryd.ntmps8
      go_wp2_with (first | ((with_reducible refine gd 1 rfl ?_); refine bx_ 1 23 #[.int .i64 a0_0, .int .i64 a0_1] rfl rfl ?_; intro gb970 hg w82 BK970 hb; have GE970 := bz HB hg; replace HB := bs HB hb; clear hb hg; have hcz83 := k2 BK970) | ((with_reducible refine gc 18 rfl ?_); refine gm_ (some 8) rfl rfl Tryd.func18 (frac_Right.calls _ _ _ _ _ A2.out (tt GT)) ag ?_; intro w84 hb; replace BK970 := bb BK970 hb; replace HB := bs HB hb; (try clear hb); have hcz85 := k2 BK970) | ((with_reducible refine gc 27 rfl ?_); refine gm_ (some 11) rfl rfl Tryd.func27 (frac_Floor.calls _ _ _ _ _ A62.out (tt GT)) ag ?_; intro w86 hb; replace HB := bs HB hb; (try clear hb)))
      go_ret
      exact ⟨ae, bf HB⟩

/-! ### frac_Sum: function 33 -/
theorem frac_Sum.calls (k : Nat) (A0 : Option Addr) (c0 : Nat) (l0 : List (S23)) (r1 : Int) (r2 : Int) (r3 : Int) (w : World) (hr0 : Kd.C k23 w A0 l0.length l0) (hc0 : l0.length ≤ c0) (h : frac_Sum.f k l0 = some (r1, r2, r3)) (hT : TabOK w) :
    Calls Tryd.prog 33 #[.slice A0 l0.length c0] w fun e w' => e = .returned (.tuple #[.agg #[.int .i64 r1, .int .i64 r2], .int .i64 r3]) ∧ Below w.heap.size w w' := by
  have GT := Aside0.mk hT
  clear hT
  have hu23 := Tryd.underlying23
  have HR0 := Aside0.mk hr0
  have HC0 := Aside0.mk hc0
  clear hr0 hc0
  have HB := Aside0.mk (Below.refl w.heap.size w)
  have H : ((frac_nought.f).bind fun bt984 => (frac_Sum.l0 k l0 (l0.length : Int) 0 bt984.1 bt984.2)) = some (r1, r2, r3) := h
  clear h
  replace H := bi_ H; obtain ⟨⟨t984, t985⟩, A2, H⟩ := H
  (try dsimp only at H)
  have H' := Aside0.mk H
  clear H
  go_enter Tryd.func33, Tryd.ntmps33
  go_wp2_with (first | ((with_reducible refine gd 2 rfl ?_); refine bx_ 2 23 #[.int .i64 0, .int .i64 0] rfl rfl ?_; intro gb983 hg w3 BK983 hb; have GE983 := bz HB hg; replace HB := bs HB hb; clear hb hg) | ((with_reducible refine gc 66 rfl ?_); refine gm_ (some 9) rfl rfl Tryd.func66 (frac_nought.calls _ _ _ A2.out) ag ?_; intro w4 hb; replace BK983 := bb BK983 hb; replace HB := bs HB hb; (try clear hb)) | ((with_reducible refine gd 4 rfl ?_); refine bx_ 4 23 #[.int .i64 0, .int .i64 0] rfl rfl ?_; intro gb986 hg w5 BK986 hb; have GE986 := bz HB hg; have ⟨NB983_986, NB986_983⟩ := nb BK983 hg; replace BK983 := bb BK983 hb; replace HB := bs HB hb; clear hb hg; have hnb6 := nn NB986_983; have hcz7 := k2 BK986))
  go_loopg [12] k (fun kq v12 w' => ∃ (x12_1 : Int) (x984000_1 : Int) (x984001_1 : Int) (x987000_1 : Int) (x987001_1 : Int), v12 = .int .i64 x12_1 ∧ Aside0 (frac_Sum.l0 kq l0 (l0.length : Int) x12_1 x987000_1 x987001_1 = some (r1, r2, r3)) ∧ Aside0 (kq ≤ k) ∧ Aside0 (w'.heap[gb983]? = some (.cells #[.int .i64 x984000_1, .int .i64 x984001_1] 23 (0, 0))) ∧ Aside0 (w'.heap[gb986]? = some (.cells #[.int .i64 x987000_1, .int .i64 x987001_1] 23 (0, 0))) ∧ Aside0 (Below w.heap.size w w'))
  case atStart => exact ⟨(0), (0), (0), (t984), (t985), (aq), H', ⟨Nat.le_refl _⟩, bu_ BK983, bq_ BK986, ⟨bf HB⟩⟩
  case round =>
    clear H'
    try clear p2
    try clear c3
    try clear c6
    try clear hcz7
    obtain ⟨x12_1, x984000_1, x984001_1, x987000_1, x987001_1, rfl, HA, HK1, BK983, BK986, HB⟩ := hrel
    cases gk with
    | zero => exact absurd HA.out (by simp [frac_Sum.l0])
    | succ k1 =>
      have H := HA.out
      clear HA
      simp only [frac_Sum.l0] at H
      by_cases c8 : x12_1 < (l0.length : Int)
      · rw [if_pos c8] at H
        have c8b0 : decide (x12_1 < (l0.length : Int)) = true := decide_eq_true c8
        clear c8
        by_cases c9 : 0 ≤ x12_1
        · rw [if_pos c9] at H
          have c9b0 : decide (0 ≤ x12_1) = true := decide_eq_true c9
          clear c9
          by_cases c10 : x12_1 < (l0.length : Int)
          · rw [if_pos c10] at H
            have c10b0 : decide (x12_1 < (l0.length : Int)) = true := decide_eq_true c10
            clear c10
            replace H := bi_ H; obtain ⟨⟨t989, t990, t991⟩, A11, H⟩ := H
            (try dsimp only at H)
            by_cases c12 : t991 = 0
            · rw [if_pos c12] at H
              have c12b0 : (t991 == 0) = true := beq_iff_eq.mpr c12
              have c12b1 : (t991 != 0) = false := bne_eq_false_iff_eq.mpr c12
              clear c12
              have H' := Aside0.mk H
              clear H
              have p987 : 0 ≤ (x12_1 : Int) := of_decide_eq_true (by first | (with_reducible assumption) | assumption)
              have q987 : x12_1 < (l0.length : Int) := of_decide_eq_true (by first | (with_reducible assumption) | assumption)
              obtain ⟨ad987, e987, hx987_0, hx987_1⟩ := at_T23 HR0.out x12_1 p987 q987
              cases e987
              replace hx987_0 := (HB.out.cell (World.block_lt_of_cell? w _ hx987_0)).trans hx987_0
              replace hx987_1 := (HB.out.cell (World.block_lt_of_cell? w _ hx987_1)).trans hx987_1
              replace p987 := eq_true p987
              replace q987 := eq_true q987
              go_wp2_with (first | ((with_reducible refine gd 6 rfl ?_); refine bx_ 6 23 #[.int .i64 0, .int .i64 0] rfl rfl ?_; intro gb988 hg w13 BK988 hb; have GE988 := bz HB hg; have ⟨NB983_988, NB988_983⟩ := nb BK983 hg; have ⟨NB986_988, NB988_986⟩ := nb BK986 hg; replace BK983 := bb BK983 hb; replace BK986 := bb BK986 hb; replace HB := bs HB hb; clear hb hg; have hnb14 := nn NB988_983; have hnb15 := nn NB988_986; have hcz16 := k2 BK988; have hnb17 := nn NB986_983; have hcz18 := k2 BK986) | ((with_reducible refine gc 10 rfl ?_); refine gm_ (some 19) rfl rfl Tryd.func10 (frac_Add.calls _ _ _ ((rd_T23 l0 x12_1).f0) ((rd_T23 l0 x12_1).f1) _ _ _ _ A11.out (tt GT)) ag ?_; intro w19 hb; replace BK983 := bb BK983 hb; replace BK986 := bb BK986 hb; replace BK988 := bp_ #[.int .i64 ((rd_T23 l0 x12_1).f0), .int .i64 ((rd_T23 l0 x12_1).f1)] BK988 hb; replace HB := bs HB hb; (try clear hb)) | ((with_reducible refine gd 7 rfl ?_); refine bx_ 7 23 #[.int .i64 0, .int .i64 0] rfl rfl ?_; intro gb992 hg w20 BK992 hb; have GE992 := bz HB hg; have ⟨NB983_992, NB992_983⟩ := nb BK983 hg; have ⟨NB986_992, NB992_986⟩ := nb BK986 hg; have ⟨NB988_992, NB992_988⟩ := nb BK988 hg; replace BK983 := bb BK983 hb; replace BK986 := bb BK986 hb; replace HB := bs HB hb; clear hb hg; have hnb21 := nn NB992_983; have hnb22 := nn NB992_986; have hnb23 := nn NB992_988; have hcz24 := k2 BK992; have hcz25 := k2 BK986))
              go_roundg k1
              case measure => have := HK1.out; omega
              case rel => exact ⟨(wrap64 (x12_1 + 1)), (x984000_1), (x984001_1), (t989), (t990), (aq), H', ⟨by have := HK1.out; omega⟩, bu_ BK983, bq_ BK986, ⟨bf HB⟩⟩
            · rw [if_neg c12] at H
              have c12b0 : (t991 == 0) = false := beq_eq_false_iff_ne.mpr c12
              have c12b1 : (t991 != 0) = true := bne_iff_ne.mpr c12
              simp only [Option.some.injEq, Prod.mk.injEq] at H
              obtain ⟨rfl, rfl, rfl⟩ := H
              have p987 : 0 ≤ (x12_1 : Int) := of_decide_eq_true (by first | (with_reducible assumption) | assumption)
              have q987 : x12_1 < (l0.length : Int) := of_decide_eq_true (by first | (with_reducible assumption) | assumption)
              obtain ⟨ad987, e987, hx987_0, hx987_1⟩ := at_T23 HR0.out x12_1 p987 q987
              cases e987
              replace hx987_0 := (HB.out.cell (World.block_lt_of_cell? w _ hx987_0)).trans hx987_0
              replace hx987_1 := (HB.out.cell (World.block_lt_of_cell? w _ hx987_1)).trans hx987_1
              replace p987 := eq_true p987
              replace q987 := eq_true q987
              go_wp2_with (first | ((with_reducible refine gd 6 rfl ?_); refine bx_ 6 23 #[.int .i64 0, .int .i64 0] rfl rfl ?_; intro gb988 hg w26 BK988 hb; have GE988 := bz HB hg; have ⟨NB983_988, NB988_983⟩ := nb BK983 hg; have ⟨NB986_988, NB988_986⟩ := nb BK986 hg; replace BK983 := bb BK983 hb; replace BK986 := bb BK986 hb; replace HB := bs HB hb; clear hb hg; have hnb27 := nn NB988_983; have hnb28 := nn NB988_986; have hcz29 := k2 BK988; have hnb30 := nn NB986_983; have hcz31 := k2 BK986) | ((with_reducible refine gc 10 rfl ?_); refine gm_ (some 19) rfl rfl Tryd.func10 (frac_Add.calls _ _ _ ((rd_T23 l0 x12_1).f0) ((rd_T23 l0 x12_1).f1) _ _ _ _ A11.out (tt GT)) ag ?_; intro w32 hb; replace BK983 := bb BK983 hb; replace BK986 := bb BK986 hb; replace BK988 := bp_ #[.int .i64 ((rd_T23 l0 x12_1).f0), .int .i64 ((rd_T23 l0 x12_1).f1)] BK988 hb; replace HB := bs HB hb; (try clear hb)) | ((with_reducible refine gd 7 rfl ?_); refine bx_ 7 23 #[.int .i64 0, .int .i64 0] rfl rfl ?_; intro gb992 hg w33 BK992 hb; have GE992 := bz HB hg; have ⟨NB983_992, NB992_983⟩ := nb BK983 hg; have ⟨NB986_992, NB992_986⟩ := nb BK986 hg; have ⟨NB988_992, NB992_988⟩ := nb BK988 hg; replace BK983 := bb BK983 hb; replace BK986 := bb BK986 hb; replace HB := bs HB hb; clear hb hg; have hnb34 := nn NB992_983; have hnb35 := nn NB992_986; have hnb36 := nn NB992_988; have hcz37 := k2 BK992; have hcz38 := k2 BK983))
              refine bodyPost_ret (results_ct rfl _ _ gb983 23 #[.int .i64 0, .int .i64 0] (0, 0) _ rfl (br_ BK983) Tryd.underlying23 rfl (by kernel_rfl)) rfl ?_
              exact ⟨ae, bf HB⟩
          · rw [if_neg c10] at H
            exact absurd H (by simp)
        · rw [if_neg c9] at H
          exact absurd H (by simp)
      · rw [if_neg c8] at H
        have c8b0 : decide (x12_1 < (l0.length : Int)) = false := decide_eq_false c8
        clear c8
        simp only [Option.some.injEq, Prod.mk.injEq] at H
        obtain ⟨rfl, rfl, rfl⟩ := H
        have hnb39 := nn NB986_983
        have hcz40 := k2 BK986
        have hcz41 := k2 BK983
        go_wp2
        refine bodyPost_ret (results_ct rfl _ _ gb983 23 #[.int .i64 x987000_1, .int .i64 x987001_1] (0, 0) _ rfl (br_ BK983) Tryd.underlying23 rfl (by kernel_rfl)) rfl ?_
        exact ⟨ae, bf HB⟩

end Go.Proofs.YtjgnaccamakpdaaDoor.X
