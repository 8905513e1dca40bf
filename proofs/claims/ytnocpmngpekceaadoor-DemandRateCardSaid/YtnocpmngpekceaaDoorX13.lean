/- Walks: each '.calls' says that the Go function comes to what its Lean function tells. Conditions: as each theorem's head says. -/
import Derived.Test.YtnocpmngpekceaaDoorXD
import Derived.Test.YtnocpmngpekceaaDoorX0
import Derived.Test.YtnocpmngpekceaaDoorX11
import Derived.Test.YtnocpmngpekceaaDoorX12
namespace Go.Proofs.YtnocpmngpekceaaDoor.X
open Go.RowKit Go.Proofs.YtnocpmngpekceaaDoorW.PrintWords Go.Proofs.YtnocpmngpekceaaDoorW.PrintLast Go.Proofs.YtnocpmngpekceaaDoorW.PrintMore
attribute [local go_sem] max2_int min2_int max_two min_two max_three min_three max_four min_four   -- for this text's walks alone
set_option linter.unusedVariables false
set_option maxHeartbeats 8000000
set_option maxRecDepth 100000
set_option linter.unusedSimpArgs false

/-! ### frac_wide_over: function 82 -/
theorem frac_wide_over.calls (k : Nat) (a0_0 : Int) (a0_1 : Int) (a1_0 : Int) (a1_1 : Int) (r1 : Int) (r2 : Int) (w : World) (h : frac_wide_over.f k a0_0 a0_1 a1_0 a1_1 = some (r1, r2)) :
    Calls Tryd.prog 82 #[.agg #[.int .u64 a0_0, .int .u64 a0_1], .agg #[.int .u64 a1_0, .int .u64 a1_1]] w fun e w' => e = .returned (.agg #[.int .u64 r1, .int .u64 r2]) ∧ Below w.heap.size w w' := by
  have hu102 := Tryd.underlying102
  have HB := Aside0.mk (Below.refl w.heap.size w)
  have H : ((frac_wide_long.f a0_0 a0_1).bind fun t338 => ((frac_wide_long.f a1_0 a1_1).bind fun t339 => (frac_wide_over.l0 k (wrap64 (t338 - t339)) a0_0 a0_1 a1_0 a1_1 0 0))) = some (r1, r2) := h
  clear h
  replace H := bi_ H; obtain ⟨t338, A3, H⟩ := H
  (try dsimp only at H)
  replace H := bi_ H; obtain ⟨t339, A4, H⟩ := H
  (try dsimp only at H)
  have H' := Aside0.mk H
  clear H
  go_enter Tryd.func82, Tryd.ntmps82
  try go_wp2_with (first | ((with_reducible refine gd 2 rfl ?_); refine bx_ 2 102 #[.int .u64 a0_0, .int .u64 a0_1] rfl rfl ?_; intro gb334 hg w5 BK334 hb; have GE334 := bz HB hg; replace HB := bs HB hb; clear hb hg) | ((with_reducible refine gd 3 rfl ?_); refine bx_ 3 102 #[.int .u64 a1_0, .int .u64 a1_1] rfl rfl ?_; intro gb335 hg w6 BK335 hb; have GE335 := bz HB hg; have ⟨NB334_335, NB335_334⟩ := nb BK334 hg; replace BK334 := bb BK334 hb; replace HB := bs HB hb; clear hb hg) | ((with_reducible refine gd 4 rfl ?_); refine bx_ 4 102 #[.int .u64 0, .int .u64 0] rfl rfl ?_; intro gb336 hg w7 BK336 hb; have GE336 := bz HB hg; have ⟨NB334_336, NB336_334⟩ := nb BK334 hg; have ⟨NB335_336, NB336_335⟩ := nb BK335 hg; replace BK334 := bb BK334 hb; replace BK335 := bb BK335 hb; replace HB := bs HB hb; clear hb hg) | ((with_reducible refine gd 5 rfl ?_); refine bx_ 5 102 #[.int .u64 0, .int .u64 0] rfl rfl ?_; intro gb337 hg w8 BK337 hb; have GE337 := bz HB hg; have ⟨NB334_337, NB337_334⟩ := nb BK334 hg; have ⟨NB335_337, NB337_335⟩ := nb BK335 hg; have ⟨NB336_337, NB337_336⟩ := nb BK336 hg; replace BK334 := bb BK334 hb; replace BK335 := bb BK335 hb; replace BK336 := bb BK336 hb; replace HB := bs HB hb; clear hb hg))
  replace BK334 := Aside0.mk (blk_drew BK334.out)
  replace BK335 := Aside0.mk (blk_drew BK335.out)
  replace BK336 := Aside0.mk (blk_drew BK336.out)
  replace BK337 := Aside0.mk (blk_drew BK337.out)
  replace HB := Aside0.mk (below_drew1 HB.out)
  refine start_ (n := 6) (S := fun w' => c_ w' gb334 0 (.int .u64 a0_0) ∧ c_ w' gb334 1 (.int .u64 a0_1) ∧ c_ w' gb335 0 (.int .u64 a1_0) ∧ c_ w' gb335 1 (.int .u64 a1_1)) (ds := []) (m_ 6 0) (by kernel_rfl) rfl rfl ⟨ct BK334 0, ct BK334 1, ct BK335 0, ct BK335 1⟩ (fun hHeld => ?_)
  generalize w8.drew = w9 at BK334 BK335 BK336 BK337 HB hHeld ⊢
  refine tk_ 0 (some 8) (m_ 6 1) rfl rfl (by kernel_rfl) hHeld ?_
  refine tk_ 2 (some 10) (m_ 6 5) rfl rfl (by kernel_rfl) hHeld ?_
  refine o1_ 1 (some 9) (m_ 6 7) rfl rfl (by kernel_rfl) (fun K hK => ?_)
  refine gs_ rfl Tryd.func92 (frac_wide_long.calls _ _ _ _ A3.out) ag ?_
  intro w10 hb
  replace BK334 := bb BK334 hb
  replace BK335 := bb BK335 hb
  replace BK336 := bb BK336 hb
  replace BK337 := bb BK337 hb
  replace HB := bs HB hb
  (try clear hb)
  refine hK.out _ _ ⟨ct BK334 0, ct BK334 1, ct BK335 0, ct BK335 1⟩ (fun hHeld => ?_)
  clear hK K
  refine nr_ (some 9) ?_
  refine o1_ 3 (some 11) (m_ 6 15) rfl rfl (by kernel_rfl) (fun K hK => ?_)
  refine gs_ rfl Tryd.func92 (frac_wide_long.calls _ _ _ _ A4.out) ag ?_
  intro w11 hb
  replace BK334 := bb BK334 hb
  replace BK335 := bb BK335 hb
  replace BK336 := bb BK336 hb
  replace BK337 := bb BK337 hb
  replace HB := bs HB hb
  (try clear hb)
  refine hK.out _ _ ⟨ct BK334 0, ct BK334 1, ct BK335 0, ct BK335 1⟩ (fun hHeld => ?_)
  clear hK K
  refine nr_ (some 11) ?_
  refine pu_ 4 (some 12) (m_ 6 31) rfl rfl (by kernel_rfl) ?_
  refine pu_ 5 (some 6) (m_ 6 63) rfl rfl (by kernel_rfl) ?_
  refine done_ (by kernel_rfl) ?_
  try go_wp2
  go_loopg [6] k (fun kq v6 w' => ∃ (x6_1 : Int) (x335000_1 : Int) (x335001_1 : Int) (x338000_1 : Int) (x338001_1 : Int), v6 = .int .i64 x6_1 ∧ Aside0 (frac_wide_over.l0 kq x6_1 x335000_1 x335001_1 a1_0 a1_1 x338000_1 x338001_1 = some (r1, r2)) ∧ Aside0 (kq ≤ k) ∧ Aside0 (w'.heap[gb334]? = some (.cells #[.int .u64 x335000_1, .int .u64 x335001_1] 102 (0, 0))) ∧ Aside0 (w'.heap[gb335]? = some (.cells #[.int .u64 a1_0, .int .u64 a1_1] 102 (0, 0))) ∧ Aside0 (w'.heap[gb336]? = some (.cells #[.int .u64 0, .int .u64 0] 102 (0, 0))) ∧ Aside0 (w'.heap[gb337]? = some (.cells #[.int .u64 x338000_1, .int .u64 x338001_1] 102 (0, 0))) ∧ Aside0 (Below w.heap.size w w'))
  case atStart => exact ⟨(wrap64 (t338 - t339)), (a0_0), (a0_1), (0), (0), (aq), H', ⟨Nat.le_refl _⟩, bu_ BK334, bu_ BK335, bu_ BK336, bu_ BK337, ⟨bf HB⟩⟩
  case round =>
    clear H'
    try clear p2
    try clear p6
    try clear c8
    try clear c9
    obtain ⟨x6_1, x335000_1, x335001_1, x338000_1, x338001_1, rfl, HA, HK1, BK334, BK335, BK336, BK337, HB⟩ := hrel
    cases gk with
    | zero => exact absurd HA.out (by simp [frac_wide_over.l0])
    | succ k1 =>
      have H := HA.out
      clear HA
      simp only [frac_wide_over.l0] at H
      by_cases c12 : x6_1 ≥ 0
      · rw [if_pos c12] at H
        have c12b0 : decide (0 ≤ x6_1) = true := decide_eq_true c12
        clear c12
        replace H := bi_ H; obtain ⟨⟨t340, t341⟩, A13, H⟩ := H
        (try dsimp only at H)
        replace H := bi_ H; obtain ⟨⟨t342, t343⟩, A14, H⟩ := H
        (try dsimp only at H)
        replace H := bi_ H; obtain ⟨t345, A15, H⟩ := H
        (try dsimp only at H)
        by_cases c16 : t345 ≤ 0
        · rw [if_pos c16] at H
          have c16b0 : decide (t345 ≤ 0) = true := decide_eq_true c16
          clear c16
          replace H := bi_ H; obtain ⟨⟨t346, t347⟩, A17, H⟩ := H
          (try dsimp only at H)
          have H' := Aside0.mk H
          clear H
          have hnb18 := nn NB337_334
          have hnb19 := nn NB337_335
          have hnb20 := nn NB337_336
          have hcz21 := X.k2 BK337
          go_wp2_with (first | ((with_reducible refine gc 91 rfl ?_); refine gm_ (some 18) rfl rfl Tryd.func91 (frac_wide_up.calls _ _ _ _ _ _ A13.out) ag ?_; intro w22 hb; replace BK334 := bb BK334 hb; replace BK335 := bb BK335 hb; replace BK336 := bb BK336 hb; replace BK337 := bb BK337 hb; replace HB := bs HB hb; (try clear hb); have hcz23 := X.k2 BK337; have hnb24 := nn NB335_334; have hnb25 := nn NB335_336; have hcz26 := X.k2 BK335) | ((with_reducible refine gc 91 rfl ?_); refine gm_ (some 21) rfl rfl Tryd.func91 (frac_wide_up.calls _ _ _ _ _ _ A14.out) ag ?_; intro w27 hb; replace BK334 := bb BK334 hb; replace BK335 := bb BK335 hb; replace BK336 := bb BK336 hb; replace BK337 := bp_ #[.int .u64 t340, .int .u64 t341] BK337 hb; replace HB := bs HB hb; (try clear hb)) | ((with_reducible refine gd 7 rfl ?_); refine bx_ 7 102 #[.int .u64 0, .int .u64 0] rfl rfl ?_; intro gb344 hg w28 BK344 hb; have GE344 := bz HB hg; have ⟨NB334_344, NB344_334⟩ := nb BK334 hg; have ⟨NB335_344, NB344_335⟩ := nb BK335 hg; have ⟨NB336_344, NB344_336⟩ := nb BK336 hg; have ⟨NB337_344, NB344_337⟩ := nb BK337 hg; replace BK334 := bb BK334 hb; replace BK335 := bb BK335 hb; replace BK336 := bb BK336 hb; replace BK337 := bb BK337 hb; replace HB := bs HB hb; clear hb hg; have hnb29 := nn NB344_334; have hnb30 := nn NB344_335; have hnb31 := nn NB344_336; have hnb32 := nn NB344_337; have hcz33 := X.k2 BK344; have hnb34 := nn NB334_336; have hcz35 := X.k2 BK334) | ((with_reducible refine gc 89 rfl ?_); refine gm_ (some 24) rfl rfl Tryd.func89 (frac_wide_cmp.calls _ _ _ _ _ _ A15.out) ag ?_; intro w36 hb; replace BK334 := bb BK334 hb; replace BK335 := bb BK335 hb; replace BK336 := bb BK336 hb; replace BK337 := bb BK337 hb; replace BK344 := bp_ #[.int .u64 t342, .int .u64 t343] BK344 hb; replace HB := bs HB hb; (try clear hb); have hcz37 := X.k2 BK334; have hcz38 := X.k2 BK344) | ((with_reducible refine gc 90 rfl ?_); refine gm_ (some 28) rfl rfl Tryd.func90 (frac_wide_minus.calls _ _ _ _ _ _ _ A17.out) ag ?_; intro w39 hb; replace BK334 := bb BK334 hb; replace BK335 := bb BK335 hb; replace BK336 := bb BK336 hb; replace BK337 := bb BK337 hb; replace HB := bs HB hb; (try clear hb); have hcz40 := X.k2 BK334; have hcz41 := X.k2 BK337))
          go_roundg k1
          case measure => have := HK1.out; omega
          case rel => exact ⟨(wrap64 (x6_1 - 1)), (t346), (t347), (t340), (Go.bits .or .u64 t341 1), (aq), H', ⟨by have := HK1.out; omega⟩, bq_ BK334, bu_ BK335, bu_ BK336, bq_ BK337, ⟨bf HB⟩⟩
        · rw [if_neg c16] at H
          have c16b0 : decide (t345 ≤ 0) = false := decide_eq_false c16
          clear c16
          have H' := Aside0.mk H
          clear H
          have hnb42 := nn NB337_334
          have hnb43 := nn NB337_335
          have hnb44 := nn NB337_336
          have hcz45 := X.k2 BK337
          go_wp2_with (first | ((with_reducible refine gc 91 rfl ?_); refine gm_ (some 18) rfl rfl Tryd.func91 (frac_wide_up.calls _ _ _ _ _ _ A13.out) ag ?_; intro w46 hb; replace BK334 := bb BK334 hb; replace BK335 := bb BK335 hb; replace BK336 := bb BK336 hb; replace BK337 := bb BK337 hb; replace HB := bs HB hb; (try clear hb); have hcz47 := X.k2 BK337; have hnb48 := nn NB335_334; have hnb49 := nn NB335_336; have hcz50 := X.k2 BK335) | ((with_reducible refine gc 91 rfl ?_); refine gm_ (some 21) rfl rfl Tryd.func91 (frac_wide_up.calls _ _ _ _ _ _ A14.out) ag ?_; intro w51 hb; replace BK334 := bb BK334 hb; replace BK335 := bb BK335 hb; replace BK336 := bb BK336 hb; replace BK337 := bp_ #[.int .u64 t340, .int .u64 t341] BK337 hb; replace HB := bs HB hb; (try clear hb)) | ((with_reducible refine gd 7 rfl ?_); refine bx_ 7 102 #[.int .u64 0, .int .u64 0] rfl rfl ?_; intro gb344 hg w52 BK344 hb; have GE344 := bz HB hg; have ⟨NB334_344, NB344_334⟩ := nb BK334 hg; have ⟨NB335_344, NB344_335⟩ := nb BK335 hg; have ⟨NB336_344, NB344_336⟩ := nb BK336 hg; have ⟨NB337_344, NB344_337⟩ := nb BK337 hg; replace BK334 := bb BK334 hb; replace BK335 := bb BK335 hb; replace BK336 := bb BK336 hb; replace BK337 := bb BK337 hb; replace HB := bs HB hb; clear hb hg; have hnb53 := nn NB344_334; have hnb54 := nn NB344_335; have hnb55 := nn NB344_336; have hnb56 := nn NB344_337; have hcz57 := X.k2 BK344; have hnb58 := nn NB334_336; have hcz59 := X.k2 BK334) | ((with_reducible refine gc 89 rfl ?_); refine gm_ (some 24) rfl rfl Tryd.func89 (frac_wide_cmp.calls _ _ _ _ _ _ A15.out) ag ?_; intro w60 hb; replace BK334 := bb BK334 hb; replace BK335 := bb BK335 hb; replace BK336 := bb BK336 hb; replace BK337 := bb BK337 hb; replace BK344 := bp_ #[.int .u64 t342, .int .u64 t343] BK344 hb; replace HB := bs HB hb; (try clear hb)))
          go_roundg k1
          case measure => have := HK1.out; omega
          case rel => exact ⟨(wrap64 (x6_1 - 1)), (x335000_1), (x335001_1), (t340), (t341), (aq), H', ⟨by have := HK1.out; omega⟩, bu_ BK334, bu_ BK335, bu_ BK336, bu_ BK337, ⟨bf HB⟩⟩
      · rw [if_neg c12] at H
        have c12b0 : decide (0 ≤ x6_1) = false := decide_eq_false c12
        clear c12
        simp only [Option.some.injEq, Prod.mk.injEq] at H
        obtain ⟨rfl, rfl⟩ := H
        have hnb61 := nn NB337_334
        have hnb62 := nn NB337_335
        have hnb63 := nn NB337_336
        have hcz64 := X.k2 BK337
        have hnb65 := nn NB336_334
        have hnb66 := nn NB336_335
        have hcz67 := X.k2 BK336
        go_wp2
        refine bodyPost_ret (results_cell_row rfl _ _ gb336 102 #[.int .u64 x338000_1, .int .u64 x338001_1] (0, 0) _ rfl (br_ BK336) Tryd.underlying102 rfl (by kernel_rfl)) rfl ?_
        exact ⟨ae, bf HB⟩

/-! ### frac_signed_whole: function 83 -/
theorem frac_signed_whole.calls (a0_0 : Bool) (a0_1 : Int) (a0_2 : Int) (r1 : Int) (r2 : Bool) (w : World) (h : frac_signed_whole.f a0_0 a0_1 a0_2 = some (r1, r2)) :
    Calls Tryd.prog 83 #[.agg #[.bool a0_0, .int .u64 a0_1, .int .u64 a0_2]] w fun e w' => e = .returned (.tuple #[.int .i64 r1, .bool r2]) ∧ Below w.heap.size w w' := by
  have hu104 := Tryd.underlying104
  have HB := Aside0.mk (Below.refl w.heap.size w)
  have H : (if a0_1 = 0 then (if a0_0 = true then (some (wrap64 (IntKind.u64.wrap (-a0_2)), decide (a0_2 ≤ 9223372036854775808))) else (some (wrap64 (a0_2), decide (a0_2 < 9223372036854775808)))) else (some (0, false))) = some (r1, r2) := h
  clear h
  by_cases c2 : a0_1 = 0
  · rw [if_pos c2] at H
    have c2b0 : (a0_1 == 0) = true := beq_iff_eq.mpr c2
    have c2b1 : (a0_1 != 0) = false := bne_eq_false_iff_eq.mpr c2
    clear c2
    by_cases c3 : a0_0 = true
    · subst c3
      have H1 : (some (wrap64 (IntKind.u64.wrap (-a0_2)), decide (a0_2 ≤ 9223372036854775808))) = some (r1, r2) := by rw [if_pos rfl] at H; exact H
      clear H
      have H := H1
      clear H1
      simp only [Option.some.injEq, Prod.mk.injEq] at H
      obtain ⟨rfl, rfl⟩ := H
      go_enter Tryd.func83, Tryd.ntmps83
      go_wp2_with (first | ((with_reducible refine gd 1 rfl ?_); refine bx_ 1 104 #[.bool true, .int .u64 a0_1, .int .u64 a0_2] rfl rfl ?_; intro gb348 hg w4 BK348 hb; have GE348 := bz HB hg; replace HB := bs HB hb; clear hb hg; have hcz5 := X.k3 BK348))
      repeat (go_quiet (first | ((with_reducible refine gd 1 rfl ?_); refine bx_ 1 104 #[.bool true, .int .u64 a0_1, .int .u64 a0_2] rfl rfl ?_; intro gb348 hg w4 BK348 hb; have GE348 := bz HB hg; replace HB := bs HB hb; clear hb hg; have hcz5 := X.k3 BK348)); try go_wp2_with (first | ((with_reducible refine gd 1 rfl ?_); refine bx_ 1 104 #[.bool true, .int .u64 a0_1, .int .u64 a0_2] rfl rfl ?_; intro gb348 hg w4 BK348 hb; have GE348 := bz HB hg; replace HB := bs HB hb; clear hb hg; have hcz5 := X.k3 BK348)))
      go_ret2
      exact ⟨ae, bf HB⟩
    · replace c3 := Bool.eq_false_iff.mpr c3
      subst c3
      have H1 : (some (wrap64 (a0_2), decide (a0_2 < 9223372036854775808))) = some (r1, r2) := by rw [if_neg (show ¬ (false = true) by decide)] at H; exact H
      clear H
      have H := H1
      clear H1
      simp only [Option.some.injEq, Prod.mk.injEq] at H
      obtain ⟨rfl, rfl⟩ := H
      go_enter Tryd.func83, Tryd.ntmps83
      go_wp2_with (first | ((with_reducible refine gd 1 rfl ?_); refine bx_ 1 104 #[.bool false, .int .u64 a0_1, .int .u64 a0_2] rfl rfl ?_; intro gb348 hg w6 BK348 hb; have GE348 := bz HB hg; replace HB := bs HB hb; clear hb hg; have hcz7 := X.k3 BK348))
      repeat (go_quiet (first | ((with_reducible refine gd 1 rfl ?_); refine bx_ 1 104 #[.bool false, .int .u64 a0_1, .int .u64 a0_2] rfl rfl ?_; intro gb348 hg w6 BK348 hb; have GE348 := bz HB hg; replace HB := bs HB hb; clear hb hg; have hcz7 := X.k3 BK348)); try go_wp2_with (first | ((with_reducible refine gd 1 rfl ?_); refine bx_ 1 104 #[.bool false, .int .u64 a0_1, .int .u64 a0_2] rfl rfl ?_; intro gb348 hg w6 BK348 hb; have GE348 := bz HB hg; replace HB := bs HB hb; clear hb hg; have hcz7 := X.k3 BK348)))
      go_ret2
      exact ⟨ae, bf HB⟩
  · rw [if_neg c2] at H
    have c2b0 : (a0_1 == 0) = false := beq_eq_false_iff_ne.mpr c2
    have c2b1 : (a0_1 != 0) = true := bne_iff_ne.mpr c2
    simp only [Option.some.injEq, Prod.mk.injEq] at H
    obtain ⟨rfl, rfl⟩ := H
    go_enter Tryd.func83, Tryd.ntmps83
    go_wp2_with (first | ((with_reducible refine gd 1 rfl ?_); refine bx_ 1 104 #[.bool a0_0, .int .u64 a0_1, .int .u64 a0_2] rfl rfl ?_; intro gb348 hg w8 BK348 hb; have GE348 := bz HB hg; replace HB := bs HB hb; clear hb hg; have hcz9 := X.k3 BK348))
    repeat (go_quiet (first | ((with_reducible refine gd 1 rfl ?_); refine bx_ 1 104 #[.bool a0_0, .int .u64 a0_1, .int .u64 a0_2] rfl rfl ?_; intro gb348 hg w8 BK348 hb; have GE348 := bz HB hg; replace HB := bs HB hb; clear hb hg; have hcz9 := X.k3 BK348)); try go_wp2_with (first | ((with_reducible refine gd 1 rfl ?_); refine bx_ 1 104 #[.bool a0_0, .int .u64 a0_1, .int .u64 a0_2] rfl rfl ?_; intro gb348 hg w8 BK348 hb; have GE348 := bz HB hg; replace HB := bs HB hb; clear hb hg; have hcz9 := X.k3 BK348)))
    go_ret2
    exact ⟨ae, bf HB⟩

end Go.Proofs.YtnocpmngpekceaaDoor.X
