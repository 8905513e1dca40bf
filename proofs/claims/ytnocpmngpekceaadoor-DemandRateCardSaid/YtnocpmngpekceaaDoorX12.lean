/- Walks: each '.calls' says that the Go function comes to what its Lean function tells. Conditions: as each theorem's head says. -/
import Derived.Test.YtnocpmngpekceaaDoorXD
import Derived.Test.YtnocpmngpekceaaDoorX0
import Derived.Test.YtnocpmngpekceaaDoorX3
import Derived.Test.YtnocpmngpekceaaDoorX11
namespace Go.Proofs.YtnocpmngpekceaaDoor.X
open Go.RowKit Go.Proofs.YtnocpmngpekceaaDoorW.PrintWords Go.Proofs.YtnocpmngpekceaaDoorW.PrintLast Go.Proofs.YtnocpmngpekceaaDoorW.PrintMore
attribute [local go_sem] max2_int min2_int max_two min_two max_three min_three max_four min_four   -- for this text's walks alone
set_option linter.unusedVariables false
set_option maxHeartbeats 8000000
set_option maxRecDepth 100000
set_option linter.unusedSimpArgs false

/-! ### frac_gcd: function 81 -/
theorem frac_gcd.calls (k : Nat) (a0_0 : Int) (a0_1 : Int) (a1_0 : Int) (a1_1 : Int) (r1 : Int) (r2 : Int) (w : World) (h : frac_gcd.f k a0_0 a0_1 a1_0 a1_1 = some (r1, r2)) (hT : TabOK w) :
    Calls Tryd.prog 81 #[.agg #[.int .u64 a0_0, .int .u64 a0_1], .agg #[.int .u64 a1_0, .int .u64 a1_1]] w fun e w' => e = .returned (.agg #[.int .u64 r1, .int .u64 r2]) ∧ Below w.heap.size w w' := by
  have GT := Aside0.mk hT
  clear hT
  have hu102 := Tryd.underlying102
  have HB := Aside0.mk (Below.refl w.heap.size w)
  have H : ((frac_wide_zero.f a0_0 a0_1).bind fun t313 => (if t313 = true then (some (a1_0, a1_1)) else ((frac_wide_zero.f a1_0 a1_1).bind fun t314 => (if t314 = true then (some (a0_0, a0_1)) else ((frac_wide_twos.f a0_0 a0_1).bind fun t315 => ((frac_wide_twos.f a1_0 a1_1).bind fun t316 => ((frac_wide_twos.f a0_0 a0_1).bind fun t317 => ((frac_wide_down.f a0_0 a0_1 t317).bind fun bt318 => (frac_gcd.l0 k (mn t315 t316) bt318.1 bt318.2 a1_0 a1_1))))))))) = some (r1, r2) := h
  clear h
  replace H := bi_ H; obtain ⟨t313, A3, H⟩ := H
  (try dsimp only at H)
  by_cases c4 : t313 = true
  · subst c4
    have H1 : (some (a1_0, a1_1)) = some (r1, r2) := by rw [if_pos rfl] at H; exact H
    clear H
    have H := H1
    clear H1
    simp only [Option.some.injEq, Prod.mk.injEq] at H
    obtain ⟨rfl, rfl⟩ := H
    go_enter Tryd.func81, Tryd.ntmps81
    go_wp2_with (first | ((with_reducible refine gd 2 rfl ?_); refine bx_ 2 102 #[.int .u64 a0_0, .int .u64 a0_1] rfl rfl ?_; intro gb310 hg w5 BK310 hb; have GE310 := bz HB hg; replace HB := bs HB hb; clear hb hg) | ((with_reducible refine gd 3 rfl ?_); refine bx_ 3 102 #[.int .u64 a1_0, .int .u64 a1_1] rfl rfl ?_; intro gb311 hg w6 BK311 hb; have GE311 := bz HB hg; have ⟨NB310_311, NB311_310⟩ := nb BK310 hg; replace BK310 := bb BK310 hb; replace HB := bs HB hb; clear hb hg) | ((with_reducible refine gd 4 rfl ?_); refine bx_ 4 102 #[.int .u64 0, .int .u64 0] rfl rfl ?_; intro gb312 hg w7 BK312 hb; have GE312 := bz HB hg; have ⟨NB310_312, NB312_310⟩ := nb BK310 hg; have ⟨NB311_312, NB312_311⟩ := nb BK311 hg; replace BK310 := bb BK310 hb; replace BK311 := bb BK311 hb; replace HB := bs HB hb; clear hb hg; have hnb8 := nn NB310_311; have hnb9 := nn NB310_312; have hcz10 := X.k2 BK310) | ((with_reducible refine gc 86 rfl ?_); refine gm_ (some 8) rfl rfl Tryd.func86 (frac_wide_zero.calls _ _ _ _ A3.out) ag ?_; intro w11 hb; replace BK311 := bb BK311 hb; replace BK312 := bb BK312 hb; replace HB := bs HB hb; (try clear hb); have hnb12 := nn NB311_312; have hcz13 := X.k2 BK311; have hcz14 := X.k2 BK312))
    refine bodyPost_ret (results_cell_row rfl _ _ gb312 102 #[.int .u64 a1_0, .int .u64 a1_1] (0, 0) _ rfl (br_ BK312) Tryd.underlying102 rfl (by kernel_rfl)) rfl ?_
    exact ⟨ae, bf HB⟩
  · replace c4 := Bool.eq_false_iff.mpr c4
    subst c4
    have H1 : ((frac_wide_zero.f a1_0 a1_1).bind fun t314 => (if t314 = true then (some (a0_0, a0_1)) else ((frac_wide_twos.f a0_0 a0_1).bind fun t315 => ((frac_wide_twos.f a1_0 a1_1).bind fun t316 => ((frac_wide_twos.f a0_0 a0_1).bind fun t317 => ((frac_wide_down.f a0_0 a0_1 t317).bind fun bt318 => (frac_gcd.l0 k (mn t315 t316) bt318.1 bt318.2 a1_0 a1_1))))))) = some (r1, r2) := by rw [if_neg (show ¬ (false = true) by decide)] at H; exact H
    clear H
    have H := H1
    clear H1
    replace H := bi_ H; obtain ⟨t314, A15, H⟩ := H
    (try dsimp only at H)
    by_cases c16 : t314 = true
    · subst c16
      have H1 : (some (a0_0, a0_1)) = some (r1, r2) := by rw [if_pos rfl] at H; exact H
      clear H
      have H := H1
      clear H1
      simp only [Option.some.injEq, Prod.mk.injEq] at H
      obtain ⟨rfl, rfl⟩ := H
      go_enter Tryd.func81, Tryd.ntmps81
      go_wp2_with (first | ((with_reducible refine gd 2 rfl ?_); refine bx_ 2 102 #[.int .u64 a0_0, .int .u64 a0_1] rfl rfl ?_; intro gb310 hg w17 BK310 hb; have GE310 := bz HB hg; replace HB := bs HB hb; clear hb hg) | ((with_reducible refine gd 3 rfl ?_); refine bx_ 3 102 #[.int .u64 a1_0, .int .u64 a1_1] rfl rfl ?_; intro gb311 hg w18 BK311 hb; have GE311 := bz HB hg; have ⟨NB310_311, NB311_310⟩ := nb BK310 hg; replace BK310 := bb BK310 hb; replace HB := bs HB hb; clear hb hg) | ((with_reducible refine gd 4 rfl ?_); refine bx_ 4 102 #[.int .u64 0, .int .u64 0] rfl rfl ?_; intro gb312 hg w19 BK312 hb; have GE312 := bz HB hg; have ⟨NB310_312, NB312_310⟩ := nb BK310 hg; have ⟨NB311_312, NB312_311⟩ := nb BK311 hg; replace BK310 := bb BK310 hb; replace BK311 := bb BK311 hb; replace HB := bs HB hb; clear hb hg; have hnb20 := nn NB310_311; have hnb21 := nn NB310_312; have hcz22 := X.k2 BK310) | ((with_reducible refine gc 86 rfl ?_); refine gm_ (some 8) rfl rfl Tryd.func86 (frac_wide_zero.calls _ _ _ _ A3.out) ag ?_; intro w23 hb; replace BK310 := bb BK310 hb; replace BK311 := bb BK311 hb; replace BK312 := bb BK312 hb; replace HB := bs HB hb; (try clear hb); have hnb24 := nn NB311_312; have hcz25 := X.k2 BK311) | ((with_reducible refine gc 86 rfl ?_); refine gm_ (some 12) rfl rfl Tryd.func86 (frac_wide_zero.calls _ _ _ _ A15.out) ag ?_; intro w26 hb; replace BK310 := bb BK310 hb; replace BK312 := bb BK312 hb; replace HB := bs HB hb; (try clear hb); have hcz27 := X.k2 BK310; have hcz28 := X.k2 BK312))
      refine bodyPost_ret (results_cell_row rfl _ _ gb312 102 #[.int .u64 a0_0, .int .u64 a0_1] (0, 0) _ rfl (br_ BK312) Tryd.underlying102 rfl (by kernel_rfl)) rfl ?_
      exact ⟨ae, bf HB⟩
    · replace c16 := Bool.eq_false_iff.mpr c16
      subst c16
      have H1 : ((frac_wide_twos.f a0_0 a0_1).bind fun t315 => ((frac_wide_twos.f a1_0 a1_1).bind fun t316 => ((frac_wide_twos.f a0_0 a0_1).bind fun t317 => ((frac_wide_down.f a0_0 a0_1 t317).bind fun bt318 => (frac_gcd.l0 k (mn t315 t316) bt318.1 bt318.2 a1_0 a1_1))))) = some (r1, r2) := by rw [if_neg (show ¬ (false = true) by decide)] at H; exact H
      clear H
      have H := H1
      clear H1
      replace H := bi_ H; obtain ⟨t315, A29, H⟩ := H
      (try dsimp only at H)
      replace H := bi_ H; obtain ⟨t316, A30, H⟩ := H
      (try dsimp only at H)
      obtain ⟨ji31, hji31⟩ : ∃ j_ : Int, (mn t315 t316) = j_ := ⟨_, rfl⟩
      replace H : ((frac_wide_twos.f a0_0 a0_1).bind fun t317 => ((frac_wide_down.f a0_0 a0_1 t317).bind fun bt318 => (frac_gcd.l0 k ji31 bt318.1 bt318.2 a1_0 a1_1))) = some (r1, r2) := by first | (rw [hji31] at H; exact H) | (simp only [hji31] at H ⊢; exact H)
      (try rw [hji31] at A3)
      (try rw [hji31] at A15)
      (try rw [hji31] at A29)
      (try rw [hji31] at A30)
      have hji31_ : (if t316 < t315 then t316 else t315) = ji31 := hji31
      replace H := bi_ H; obtain ⟨t317, A32, H⟩ := H
      (try dsimp only at H)
      replace H := bi_ H; obtain ⟨⟨t318, t319⟩, A33, H⟩ := H
      (try dsimp only at H)
      have H' := Aside0.mk H
      clear H
      go_enter Tryd.func81, Tryd.ntmps81
      try go_wp2_with (first | ((with_reducible refine gd 2 rfl ?_); refine bx_ 2 102 #[.int .u64 a0_0, .int .u64 a0_1] rfl rfl ?_; intro gb310 hg w34 BK310 hb; have GE310 := bz HB hg; replace HB := bs HB hb; clear hb hg) | ((with_reducible refine gd 3 rfl ?_); refine bx_ 3 102 #[.int .u64 a1_0, .int .u64 a1_1] rfl rfl ?_; intro gb311 hg w35 BK311 hb; have GE311 := bz HB hg; have ⟨NB310_311, NB311_310⟩ := nb BK310 hg; replace BK310 := bb BK310 hb; replace HB := bs HB hb; clear hb hg) | ((with_reducible refine gd 4 rfl ?_); refine bx_ 4 102 #[.int .u64 0, .int .u64 0] rfl rfl ?_; intro gb312 hg w36 BK312 hb; have GE312 := bz HB hg; have ⟨NB310_312, NB312_310⟩ := nb BK310 hg; have ⟨NB311_312, NB312_311⟩ := nb BK311 hg; replace BK310 := bb BK310 hb; replace BK311 := bb BK311 hb; replace HB := bs HB hb; clear hb hg; have hnb37 := nn NB310_311; have hnb38 := nn NB310_312; have hcz39 := X.k2 BK310) | ((with_reducible refine gc 86 rfl ?_); refine gm_ (some 8) rfl rfl Tryd.func86 (frac_wide_zero.calls _ _ _ _ A3.out) ag ?_; intro w40 hb; replace BK310 := bb BK310 hb; replace BK311 := bb BK311 hb; replace BK312 := bb BK312 hb; replace HB := bs HB hb; (try clear hb); have hnb41 := nn NB311_312; have hcz42 := X.k2 BK311) | ((with_reducible refine gc 86 rfl ?_); refine gm_ (some 12) rfl rfl Tryd.func86 (frac_wide_zero.calls _ _ _ _ A15.out) ag ?_; intro w43 hb; replace BK310 := bb BK310 hb; replace BK311 := bb BK311 hb; replace BK312 := bb BK312 hb; replace HB := bs HB hb; (try clear hb)))
      replace BK310 := Aside0.mk (blk_drew BK310.out)
      replace BK311 := Aside0.mk (blk_drew BK311.out)
      replace BK312 := Aside0.mk (blk_drew BK312.out)
      replace HB := Aside0.mk (below_drew1 HB.out)
      refine start_ (n := 6) (S := fun w' => c_ w' gb310 0 (.int .u64 a0_0) ∧ c_ w' gb310 1 (.int .u64 a0_1) ∧ c_ w' gb311 0 (.int .u64 a1_0) ∧ c_ w' gb311 1 (.int .u64 a1_1)) (ds := []) (m_ 6 0) (by kernel_rfl) rfl rfl ⟨ct BK310 0, ct BK310 1, ct BK311 0, ct BK311 1⟩ (fun hHeld => ?_)
      generalize w43.drew = w44 at BK310 BK311 BK312 HB hHeld ⊢
      refine tk_ 0 (some 14) (m_ 6 1) rfl rfl (by kernel_rfl) hHeld ?_
      refine tk_ 2 (some 16) (m_ 6 5) rfl rfl (by kernel_rfl) hHeld ?_
      refine o1_ 1 (some 15) (m_ 6 7) rfl rfl (by kernel_rfl) (fun K hK => ?_)
      refine gs_ rfl Tryd.func87 (frac_wide_twos.calls _ _ _ _ A29.out (tt GT)) ag ?_
      intro w45 hb
      replace BK310 := bb BK310 hb
      replace BK311 := bb BK311 hb
      replace BK312 := bb BK312 hb
      replace HB := bs HB hb
      (try clear hb)
      refine hK.out _ _ ⟨ct BK310 0, ct BK310 1, ct BK311 0, ct BK311 1⟩ (fun hHeld => ?_)
      clear hK K
      refine nr_ (some 15) ?_
      refine o1_ 3 (some 17) (m_ 6 15) rfl rfl (by kernel_rfl) (fun K hK => ?_)
      refine gs_ rfl Tryd.func87 (frac_wide_twos.calls _ _ _ _ A30.out (tt GT)) ag ?_
      intro w46 hb
      replace BK310 := bb BK310 hb
      replace BK311 := bb BK311 hb
      replace BK312 := bb BK312 hb
      replace HB := bs HB hb
      (try clear hb)
      refine hK.out _ _ ⟨ct BK310 0, ct BK310 1, ct BK311 0, ct BK311 1⟩ (fun hHeld => ?_)
      clear hK K
      refine nr_ (some 17) ?_
      refine pu_ 4 (some 18) (m_ 6 31) rfl rfl (by kernel_rfl) ?_
      refine pu_ 5 (some 5) (m_ 6 63) rfl rfl (by kernel_rfl) ?_
      refine done_ (by kernel_rfl) ?_
      try go_wp2
      replace BK310 := Aside0.mk (blk_drew BK310.out)
      replace BK311 := Aside0.mk (blk_drew BK311.out)
      replace BK312 := Aside0.mk (blk_drew BK312.out)
      replace HB := Aside0.mk (below_drew1 HB.out)
      refine start_ (n := 5) (S := fun w' => c_ w' gb310 0 (.int .u64 a0_0) ∧ c_ w' gb310 1 (.int .u64 a0_1)) (ds := [4]) (m_ 5 0) (by kernel_rfl) rfl rfl ⟨ct BK310 0, ct BK310 1⟩ (fun hHeld => ?_)
      generalize w46.drew = w47 at BK310 BK311 BK312 HB hHeld ⊢
      refine tk_ 0 (some 19) (m_ 5 1) rfl rfl (by kernel_rfl) hHeld ?_
      refine tk_ 1 (some 20) (m_ 5 3) rfl rfl (by kernel_rfl) hHeld ?_
      refine o1_ 2 (some 21) (m_ 5 7) rfl rfl (by kernel_rfl) (fun K hK => ?_)
      refine gs_ rfl Tryd.func87 (frac_wide_twos.calls _ _ _ _ A32.out (tt GT)) ag ?_
      intro w48 hb
      replace BK310 := bb BK310 hb
      replace BK311 := bb BK311 hb
      replace BK312 := bb BK312 hb
      replace HB := bs HB hb
      (try clear hb)
      refine hK.out _ _ ⟨ct BK310 0, ct BK310 1⟩ (fun hHeld => ?_)
      clear hK K
      refine nr_ (some 21) ?_
      refine o1_ 3 (some 22) (m_ 5 15) rfl rfl (by kernel_rfl) (fun K hK => ?_)
      refine gs_ rfl Tryd.func88 (frac_wide_down.calls _ _ _ _ _ _ A33.out) ag ?_
      intro w49 hb
      replace BK310 := bb BK310 hb
      replace BK311 := bb BK311 hb
      replace BK312 := bb BK312 hb
      replace HB := bs HB hb
      (try clear hb)
      refine hK.out _ _ ⟨ct BK310 0, ct BK310 1⟩ (fun hHeld => ?_)
      clear hK K
      refine nr_ (some 22) ?_
      refine last_ (i := 4) (N := none) (m_ 5 31) rfl rfl (by kernel_rfl) (by decide) (fun K hK => ?_)
      have hs50 : c_ w49 gb310 0 (.int .u64 a0_0) := ct BK310 0
      have hfs50 := blk_frozen BK310.out 0
      have hns50_1 := NB311_310.out
      have hns50_2 := NB312_310.out
      have hms50_1 := NB310_311.out
      have hms50_2 := NB310_312.out
      have hs51 : c_ w49 gb310 1 (.int .u64 a0_1) := ct BK310 1
      have hfs51 := blk_frozen BK310.out 1
      have hns51_1 := NB311_310.out
      have hns51_2 := NB312_310.out
      have hms51_1 := NB310_311.out
      have hms51_2 := NB310_312.out
      refine skip_ (w1 := ?_) (by rfl) rfl ?_ ?_
      rotate_left
      · go_simp
        rfl
      refine hK.out _ _ ?_
      clear hK K
      refine done_ (by kernel_rfl) ?_
      try go_wp2
      go_loopg [] k (fun kq w' => ∃ (x311000_1 : Int) (x311001_1 : Int) (x312000_1 : Int) (x312001_1 : Int), Aside0 (frac_gcd.l0 kq ji31 x311000_1 x311001_1 x312000_1 x312001_1 = some (r1, r2)) ∧ Aside0 (kq ≤ k) ∧ Aside0 (w'.heap[gb310]? = some (.cells #[.int .u64 x311000_1, .int .u64 x311001_1] 102 (0, 0))) ∧ Aside0 (w'.heap[gb311]? = some (.cells #[.int .u64 x312000_1, .int .u64 x312001_1] 102 (0, 0))) ∧ Aside0 (w'.heap[gb312]? = some (.cells #[.int .u64 0, .int .u64 0] 102 (0, 0))) ∧ Aside0 (Below w.heap.size w w'))
      case atStart => exact ⟨(t318), (t319), (a1_0), (a1_1), H', ⟨Nat.le_refl _⟩, bq_ BK310, bu_ BK311, bu_ BK312, ⟨bf HB⟩⟩
      case round =>
        clear H'
        try clear c1
        try clear c2
        try clear p2
        try clear c3
        try clear c4
        try clear c8
        try clear c9
        try clear c12
        try clear c16
        try clear c20
        try clear c21
        try clear c24
        try clear c37
        try clear c38
        try clear c41
        try clear hcz10
        try clear hcz13
        try clear hcz14
        try clear hcz22
        try clear hcz25
        try clear hcz27
        try clear hcz28
        try clear hcz39
        try clear hcz42
        obtain ⟨x311000_1, x311001_1, x312000_1, x312001_1, HA, HK1, BK310, BK311, BK312, HB⟩ := hrel
        cases gk with
        | zero => exact absurd HA.out (by simp [frac_gcd.l0])
        | succ k1 =>
          have H := HA.out
          clear HA
          simp only [frac_gcd.l0] at H
          replace H := bi_ H; obtain ⟨t320, A52, H⟩ := H
          (try dsimp only at H)
          by_cases c53 : t320 = true
          · subst c53
            have H1 : ((frac_wide_up.f x311000_1 x311001_1 ji31).bind fun bt321 => (some (bt321.1, bt321.2))) = some (r1, r2) := by rw [if_pos rfl] at H; exact H
            clear H
            have H := H1
            clear H1
            replace H := bi_ H; obtain ⟨⟨t321, t322⟩, A54, H⟩ := H
            (try dsimp only at H)
            simp only [Option.some.injEq, Prod.mk.injEq] at H
            obtain ⟨rfl, rfl⟩ := H
            have hnb55 := nn NB311_310
            have hnb56 := nn NB311_312
            have hcz57 := X.k2 BK311
            go_wp2_with (first | ((with_reducible refine gc 86 rfl ?_); refine gm_ (some 24) rfl rfl Tryd.func86 (frac_wide_zero.calls _ _ _ _ A52.out) ag ?_; intro w58 hb; replace BK310 := bb BK310 hb; replace BK311 := bb BK311 hb; replace BK312 := bb BK312 hb; replace HB := bs HB hb; (try clear hb); have hnb59 := nn NB310_312; have hcz60 := X.k2 BK310) | ((with_reducible refine gate_callee (f := 91) rfl ?_); refine goesL_ (some 41) rfl rfl Tryd.func91 (by kernel_rfl) rfl #[.agg #[.int .u64 x311000_1, .int .u64 x311001_1], .int .i64 ji31] rfl (by (try simp only [List.map_toArray, List.map_cons, List.map_nil]); first | done | (simp only [hji31]; rfl) | rfl | (simp only [List.length_drop, List.length_take]; rfl)) ?_; (with_reducible refine (frac_wide_up.calls _ _ ji31 _ _ _ A54.out).mono ?_); rintro e w61 ⟨rfl, hb⟩; refine ⟨_, rfl, ?_⟩; replace BK310 := bb BK310 hb; replace BK311 := bb BK311 hb; replace BK312 := bb BK312 hb; replace HB := bs HB hb; (try clear hb); have hcz62 := X.k2 BK312))
            refine bodyPost_ret (results_cell_row rfl _ _ gb312 102 #[.int .u64 t321, .int .u64 t322] (0, 0) _ rfl (br_ BK312) Tryd.underlying102 rfl (by kernel_rfl)) rfl ?_
            exact ⟨by first | rfl | (simp [errW_none, errW_some] <;> rfl) | (simp only [← hji31]; first | rfl | (simp [errW_none, errW_some] <;> rfl)) | (simp [*, errW_none, errW_some] <;> rfl), bf HB⟩
          · replace c53 := Bool.eq_false_iff.mpr c53
            subst c53
            have H1 : ((frac_wide_twos.f x312000_1 x312001_1).bind fun t323 => ((frac_wide_down.f x312000_1 x312001_1 t323).bind fun bt324 => ((frac_wide_cmp.f x311000_1 x311001_1 bt324.1 bt324.2).bind fun t326 => (if t326 > 0 then ((frac_wide_minus.f x311000_1 x311001_1 bt324.1 bt324.2).bind fun bt327 => (frac_gcd.l0 k1 ji31 bt324.1 bt324.2 bt327.1 bt327.2)) else ((frac_wide_minus.f bt324.1 bt324.2 x311000_1 x311001_1).bind fun bt329 => (frac_gcd.l0 k1 ji31 x311000_1 x311001_1 bt329.1 bt329.2)))))) = some (r1, r2) := by rw [if_neg (show ¬ (false = true) by decide)] at H; exact H
            clear H
            have H := H1
            clear H1
            replace H := bi_ H; obtain ⟨t323, A63, H⟩ := H
            (try dsimp only at H)
            replace H := bi_ H; obtain ⟨⟨t324, t325⟩, A64, H⟩ := H
            (try dsimp only at H)
            replace H := bi_ H; obtain ⟨t326, A65, H⟩ := H
            (try dsimp only at H)
            by_cases c66 : t326 > 0
            · rw [if_pos c66] at H
              have c66b0 : decide (0 < t326) = true := decide_eq_true c66
              clear c66
              replace H := bi_ H; obtain ⟨⟨t327, t328⟩, A67, H⟩ := H
              (try dsimp only at H)
              have H' := Aside0.mk H
              clear H
              have hnb68 := nn NB311_310
              have hnb69 := nn NB311_312
              have hcz70 := X.k2 BK311
              try go_wp2_with (first | ((with_reducible refine gc 86 rfl ?_); refine gm_ (some 24) rfl rfl Tryd.func86 (frac_wide_zero.calls _ _ _ _ A52.out) ag ?_; intro w71 hb; replace BK310 := bb BK310 hb; replace BK311 := bb BK311 hb; replace BK312 := bb BK312 hb; replace HB := bs HB hb; (try clear hb)))
              replace BK310 := Aside0.mk (blk_drew BK310.out)
              replace BK311 := Aside0.mk (blk_drew BK311.out)
              replace BK312 := Aside0.mk (blk_drew BK312.out)
              replace HB := Aside0.mk (below_drew1 HB.out)
              refine start_ (n := 5) (S := fun w' => c_ w' gb311 0 (.int .u64 x312000_1) ∧ c_ w' gb311 1 (.int .u64 x312001_1)) (ds := [4]) (m_ 5 0) (by kernel_rfl) rfl rfl ⟨ct BK311 0, ct BK311 1⟩ (fun hHeld => ?_)
              generalize w71.drew = w72 at BK310 BK311 BK312 HB hHeld ⊢
              refine tk_ 0 (some 26) (m_ 5 1) rfl rfl (by kernel_rfl) hHeld ?_
              refine tk_ 1 (some 27) (m_ 5 3) rfl rfl (by kernel_rfl) hHeld ?_
              refine o1_ 2 (some 28) (m_ 5 7) rfl rfl (by kernel_rfl) (fun K hK => ?_)
              refine gs_ rfl Tryd.func87 (frac_wide_twos.calls _ _ _ _ A63.out (tt GT)) ag ?_
              intro w73 hb
              replace BK310 := bb BK310 hb
              replace BK311 := bb BK311 hb
              replace BK312 := bb BK312 hb
              replace HB := bs HB hb
              (try clear hb)
              refine hK.out _ _ ⟨ct BK311 0, ct BK311 1⟩ (fun hHeld => ?_)
              clear hK K
              refine nr_ (some 28) ?_
              refine o1_ 3 (some 29) (m_ 5 15) rfl rfl (by kernel_rfl) (fun K hK => ?_)
              refine gs_ rfl Tryd.func88 (frac_wide_down.calls _ _ _ _ _ _ A64.out) ag ?_
              intro w74 hb
              replace BK310 := bb BK310 hb
              replace BK311 := bb BK311 hb
              replace BK312 := bb BK312 hb
              replace HB := bs HB hb
              (try clear hb)
              refine hK.out _ _ ⟨ct BK311 0, ct BK311 1⟩ (fun hHeld => ?_)
              clear hK K
              refine nr_ (some 29) ?_
              refine last_ (i := 4) (N := none) (m_ 5 31) rfl rfl (by kernel_rfl) (by decide) (fun K hK => ?_)
              have hs75 : c_ w74 gb311 0 (.int .u64 x312000_1) := ct BK311 0
              have hfs75 := blk_frozen BK311.out 0
              have hns75_0 := NB310_311.out
              have hns75_2 := NB312_311.out
              have hms75_0 := NB311_310.out
              have hms75_2 := NB311_312.out
              have hs76 : c_ w74 gb311 1 (.int .u64 x312001_1) := ct BK311 1
              have hfs76 := blk_frozen BK311.out 1
              have hns76_0 := NB310_311.out
              have hns76_2 := NB312_311.out
              have hms76_0 := NB311_310.out
              have hms76_2 := NB311_312.out
              refine skip_ (w1 := ?_) (by rfl) rfl ?_ ?_
              rotate_left
              · go_simp
                rfl
              refine hK.out _ _ ?_
              clear hK K
              refine done_ (by kernel_rfl) ?_
              have hnb77 := nn NB310_312
              have hcz78 := X.k2 BK310
              have hcz79 := X.k2 BK311
              try go_wp2_with (first | ((with_reducible refine gc 89 rfl ?_); refine gm_ (some 32) rfl rfl Tryd.func89 (frac_wide_cmp.calls _ _ _ _ _ _ A65.out) ag ?_; intro w80 hb; replace BK310 := bb BK310 hb; replace BK311 := bp_ #[.int .u64 t324, .int .u64 t325] BK311 hb; replace BK312 := bb BK312 hb; replace HB := bs HB hb; (try clear hb); have hcz81 := X.k2 BK311; have hcz82 := X.k2 BK310) | ((with_reducible refine gc 90 rfl ?_); refine gm_ (some 38) rfl rfl Tryd.func90 (frac_wide_minus.calls _ _ _ _ _ _ _ A67.out) ag ?_; intro w83 hb; replace BK310 := bp_ #[.int .u64 t324, .int .u64 t325] BK310 hb; replace BK311 := bp_ #[.int .u64 x311000_1, .int .u64 x311001_1] BK311 hb; replace BK312 := bb BK312 hb; replace HB := bs HB hb; (try clear hb); have hcz84 := X.k2 BK311))
              go_roundg k1
              case measure => have := HK1.out; omega
              case rel => exact ⟨(t324), (t325), (t327), (t328), H', ⟨by have := HK1.out; omega⟩, bu_ BK310, bq_ BK311, bu_ BK312, ⟨bf HB⟩⟩
            · rw [if_neg c66] at H
              have c66b0 : decide (0 < t326) = false := decide_eq_false c66
              clear c66
              replace H := bi_ H; obtain ⟨⟨t329, t330⟩, A85, H⟩ := H
              (try dsimp only at H)
              have H' := Aside0.mk H
              clear H
              have hnb86 := nn NB311_310
              have hnb87 := nn NB311_312
              have hcz88 := X.k2 BK311
              try go_wp2_with (first | ((with_reducible refine gc 86 rfl ?_); refine gm_ (some 24) rfl rfl Tryd.func86 (frac_wide_zero.calls _ _ _ _ A52.out) ag ?_; intro w89 hb; replace BK310 := bb BK310 hb; replace BK311 := bb BK311 hb; replace BK312 := bb BK312 hb; replace HB := bs HB hb; (try clear hb)))
              replace BK310 := Aside0.mk (blk_drew BK310.out)
              replace BK311 := Aside0.mk (blk_drew BK311.out)
              replace BK312 := Aside0.mk (blk_drew BK312.out)
              replace HB := Aside0.mk (below_drew1 HB.out)
              refine start_ (n := 5) (S := fun w' => c_ w' gb311 0 (.int .u64 x312000_1) ∧ c_ w' gb311 1 (.int .u64 x312001_1)) (ds := [4]) (m_ 5 0) (by kernel_rfl) rfl rfl ⟨ct BK311 0, ct BK311 1⟩ (fun hHeld => ?_)
              generalize w89.drew = w90 at BK310 BK311 BK312 HB hHeld ⊢
              refine tk_ 0 (some 26) (m_ 5 1) rfl rfl (by kernel_rfl) hHeld ?_
              refine tk_ 1 (some 27) (m_ 5 3) rfl rfl (by kernel_rfl) hHeld ?_
              refine o1_ 2 (some 28) (m_ 5 7) rfl rfl (by kernel_rfl) (fun K hK => ?_)
              refine gs_ rfl Tryd.func87 (frac_wide_twos.calls _ _ _ _ A63.out (tt GT)) ag ?_
              intro w91 hb
              replace BK310 := bb BK310 hb
              replace BK311 := bb BK311 hb
              replace BK312 := bb BK312 hb
              replace HB := bs HB hb
              (try clear hb)
              refine hK.out _ _ ⟨ct BK311 0, ct BK311 1⟩ (fun hHeld => ?_)
              clear hK K
              refine nr_ (some 28) ?_
              refine o1_ 3 (some 29) (m_ 5 15) rfl rfl (by kernel_rfl) (fun K hK => ?_)
              refine gs_ rfl Tryd.func88 (frac_wide_down.calls _ _ _ _ _ _ A64.out) ag ?_
              intro w92 hb
              replace BK310 := bb BK310 hb
              replace BK311 := bb BK311 hb
              replace BK312 := bb BK312 hb
              replace HB := bs HB hb
              (try clear hb)
              refine hK.out _ _ ⟨ct BK311 0, ct BK311 1⟩ (fun hHeld => ?_)
              clear hK K
              refine nr_ (some 29) ?_
              refine last_ (i := 4) (N := none) (m_ 5 31) rfl rfl (by kernel_rfl) (by decide) (fun K hK => ?_)
              have hs93 : c_ w92 gb311 0 (.int .u64 x312000_1) := ct BK311 0
              have hfs93 := blk_frozen BK311.out 0
              have hns93_0 := NB310_311.out
              have hns93_2 := NB312_311.out
              have hms93_0 := NB311_310.out
              have hms93_2 := NB311_312.out
              have hs94 : c_ w92 gb311 1 (.int .u64 x312001_1) := ct BK311 1
              have hfs94 := blk_frozen BK311.out 1
              have hns94_0 := NB310_311.out
              have hns94_2 := NB312_311.out
              have hms94_0 := NB311_310.out
              have hms94_2 := NB311_312.out
              refine skip_ (w1 := ?_) (by rfl) rfl ?_ ?_
              rotate_left
              · go_simp
                rfl
              refine hK.out _ _ ?_
              clear hK K
              refine done_ (by kernel_rfl) ?_
              have hnb95 := nn NB310_312
              have hcz96 := X.k2 BK310
              have hcz97 := X.k2 BK311
              try go_wp2_with (first | ((with_reducible refine gc 89 rfl ?_); refine gm_ (some 32) rfl rfl Tryd.func89 (frac_wide_cmp.calls _ _ _ _ _ _ A65.out) ag ?_; intro w98 hb; replace BK310 := bb BK310 hb; replace BK311 := bp_ #[.int .u64 t324, .int .u64 t325] BK311 hb; replace BK312 := bb BK312 hb; replace HB := bs HB hb; (try clear hb); have hcz99 := X.k2 BK311; have hcz100 := X.k2 BK310) | ((with_reducible refine gc 90 rfl ?_); refine gm_ (some 38) rfl rfl Tryd.func90 (frac_wide_minus.calls _ _ _ _ _ _ _ A85.out) ag ?_; intro w101 hb; replace BK310 := bb BK310 hb; replace BK311 := bb BK311 hb; replace BK312 := bb BK312 hb; replace HB := bs HB hb; (try clear hb); have hcz102 := X.k2 BK311))
              go_roundg k1
              case measure => have := HK1.out; omega
              case rel => exact ⟨(x311000_1), (x311001_1), (t329), (t330), H', ⟨by have := HK1.out; omega⟩, bu_ BK310, bq_ BK311, bu_ BK312, ⟨bf HB⟩⟩

/-! ### frac_wide_long: function 92 -/
theorem frac_wide_long.calls (a0_0 : Int) (a0_1 : Int) (r : Int) (w : World) (h : frac_wide_long.f a0_0 a0_1 = some r) :
    Calls Tryd.prog 92 #[.agg #[.int .u64 a0_0, .int .u64 a0_1]] w fun e w' => e = .returned (.int .i64 r) ∧ Below w.heap.size w w' := by
  have hu102 := Tryd.underlying102
  have HB := Aside0.mk (Below.refl w.heap.size w)
  have H : (if a0_0 = 0 then ((bits_Len64.f a0_1).bind fun t332 => (some t332)) else ((bits_Len64.f a0_0).bind fun t333 => (some (wrap64 (64 + t333))))) = some r := h
  clear h
  by_cases c2 : a0_0 = 0
  · rw [if_pos c2] at H
    have c2b0 : (a0_0 == 0) = true := beq_iff_eq.mpr c2
    have c2b1 : (a0_0 != 0) = false := bne_eq_false_iff_eq.mpr c2
    clear c2
    replace H := bi_ H; obtain ⟨t332, A3, H⟩ := H
    (try dsimp only at H)
    obtain rfl := Option.some.inj H
    go_enter Tryd.func92, Tryd.ntmps92
    go_wp2_with (first | ((with_reducible refine gd 1 rfl ?_); refine bx_ 1 102 #[.int .u64 a0_0, .int .u64 a0_1] rfl rfl ?_; intro gb331 hg w4 BK331 hb; have GE331 := bz HB hg; replace HB := bs HB hb; clear hb hg; have hcz5 := X.k2 BK331) | ((with_reducible refine gc 73 rfl ?_); refine gm_ (some 12) rfl rfl Tryd.func73 (bits_Len64.calls _ _ _ A3.out) ag ?_; rintro w' ⟨nd, rfl⟩))
    go_ret
    exact ⟨ae, bf HB⟩
  · rw [if_neg c2] at H
    have c2b0 : (a0_0 == 0) = false := beq_eq_false_iff_ne.mpr c2
    have c2b1 : (a0_0 != 0) = true := bne_iff_ne.mpr c2
    replace H := bi_ H; obtain ⟨t333, A6, H⟩ := H
    (try dsimp only at H)
    obtain rfl := Option.some.inj H
    go_enter Tryd.func92, Tryd.ntmps92
    go_wp2_with (first | ((with_reducible refine gd 1 rfl ?_); refine bx_ 1 102 #[.int .u64 a0_0, .int .u64 a0_1] rfl rfl ?_; intro gb331 hg w7 BK331 hb; have GE331 := bz HB hg; replace HB := bs HB hb; clear hb hg; have hcz8 := X.k2 BK331) | ((with_reducible refine gc 73 rfl ?_); refine gm_ (some 8) rfl rfl Tryd.func73 (bits_Len64.calls _ _ _ A6.out) ag ?_; rintro w' ⟨nd, rfl⟩))
    go_ret
    exact ⟨ae, bf HB⟩

end Go.Proofs.YtnocpmngpekceaaDoor.X
