/- Walks: each '.calls' says that the Go function comes to what its Lean function tells. Conditions: as each theorem's head says. -/
import Derived.Test.YtcdaedhphdmnoaaDoorXD
import Derived.Test.YtcdaedhphdmnoaaDoorX0
import Derived.Test.YtcdaedhphdmnoaaDoorX3
import Derived.Test.YtcdaedhphdmnoaaDoorX4
namespace Go.Proofs.YtcdaedhphdmnoaaDoor.X
open Go.RowKit Go.Proofs.YtcdaedhphdmnoaaDoorW.PrintWords Go.Proofs.YtcdaedhphdmnoaaDoorW.PrintLast Go.Proofs.YtcdaedhphdmnoaaDoorW.PrintMore
attribute [local go_sem] max2_int min2_int max_two min_two max_three min_three max_four min_four   -- for this text's walks alone
set_option linter.unusedVariables false
set_option maxHeartbeats 8000000
set_option maxRecDepth 100000
set_option linter.unusedSimpArgs false

/-! ### frac_wide_over: function 69 -/
theorem frac_wide_over.calls (k : Nat) (a0_0 : Int) (a0_1 : Int) (a1_0 : Int) (a1_1 : Int) (r1 : Int) (r2 : Int) (w : World) (h : frac_wide_over.f k a0_0 a0_1 a1_0 a1_1 = some (r1, r2)) :
    Calls Tryd.prog 69 #[.agg #[.int .u64 a0_0, .int .u64 a0_1], .agg #[.int .u64 a1_0, .int .u64 a1_1]] w fun e w' => e = .returned (.agg #[.int .u64 r1, .int .u64 r2]) ∧ Below w.heap.size w w' := by
  have hu67 := Tryd.underlying67
  have HB := Aside0.mk (Below.refl w.heap.size w)
  have H : ((frac_wide_long.f a0_0 a0_1).bind fun t146 => ((frac_wide_long.f a1_0 a1_1).bind fun t147 => (frac_wide_over.l0 k (wrap64 (t146 - t147)) a0_0 a0_1 a1_0 a1_1 0 0))) = some (r1, r2) := h
  clear h
  replace H := bi_ H; obtain ⟨t146, A3, H⟩ := H
  (try dsimp only at H)
  replace H := bi_ H; obtain ⟨t147, A4, H⟩ := H
  (try dsimp only at H)
  have H' := Aside0.mk H
  clear H
  go_enter Tryd.func69, Tryd.ntmps69
  try go_wp2_with (first | ((with_reducible refine gd 2 rfl ?_); refine bx_ 2 67 #[.int .u64 a0_0, .int .u64 a0_1] rfl rfl ?_; intro gb142 hg w5 BK142 hb; have GE142 := bz HB hg; replace HB := bs HB hb; clear hb hg) | ((with_reducible refine gd 3 rfl ?_); refine bx_ 3 67 #[.int .u64 a1_0, .int .u64 a1_1] rfl rfl ?_; intro gb143 hg w6 BK143 hb; have GE143 := bz HB hg; have ⟨NB142_143, NB143_142⟩ := nb BK142 hg; replace BK142 := bb BK142 hb; replace HB := bs HB hb; clear hb hg) | ((with_reducible refine gd 4 rfl ?_); refine bx_ 4 67 #[.int .u64 0, .int .u64 0] rfl rfl ?_; intro gb144 hg w7 BK144 hb; have GE144 := bz HB hg; have ⟨NB142_144, NB144_142⟩ := nb BK142 hg; have ⟨NB143_144, NB144_143⟩ := nb BK143 hg; replace BK142 := bb BK142 hb; replace BK143 := bb BK143 hb; replace HB := bs HB hb; clear hb hg) | ((with_reducible refine gd 5 rfl ?_); refine bx_ 5 67 #[.int .u64 0, .int .u64 0] rfl rfl ?_; intro gb145 hg w8 BK145 hb; have GE145 := bz HB hg; have ⟨NB142_145, NB145_142⟩ := nb BK142 hg; have ⟨NB143_145, NB145_143⟩ := nb BK143 hg; have ⟨NB144_145, NB145_144⟩ := nb BK144 hg; replace BK142 := bb BK142 hb; replace BK143 := bb BK143 hb; replace BK144 := bb BK144 hb; replace HB := bs HB hb; clear hb hg))
  replace BK142 := Aside0.mk (blk_drew BK142.out)
  replace BK143 := Aside0.mk (blk_drew BK143.out)
  replace BK144 := Aside0.mk (blk_drew BK144.out)
  replace BK145 := Aside0.mk (blk_drew BK145.out)
  replace HB := Aside0.mk (below_drew1 HB.out)
  refine start_ (n := 6) (S := fun w' => c_ w' gb142 0 (.int .u64 a0_0) ∧ c_ w' gb142 1 (.int .u64 a0_1) ∧ c_ w' gb143 0 (.int .u64 a1_0) ∧ c_ w' gb143 1 (.int .u64 a1_1)) (ds := []) (m_ 6 0) (by kernel_rfl) rfl rfl ⟨ct BK142 0, ct BK142 1, ct BK143 0, ct BK143 1⟩ (fun hHeld => ?_)
  generalize w8.drew = w9 at BK142 BK143 BK144 BK145 HB hHeld ⊢
  refine tk_ 0 (some 8) (m_ 6 1) rfl rfl (by kernel_rfl) hHeld ?_
  refine tk_ 2 (some 10) (m_ 6 5) rfl rfl (by kernel_rfl) hHeld ?_
  refine o1_ 1 (some 9) (m_ 6 7) rfl rfl (by kernel_rfl) (fun K hK => ?_)
  refine gs_ rfl Tryd.func91 (frac_wide_long.calls _ _ _ _ A3.out) ag ?_
  intro w10 hb
  replace BK142 := bb BK142 hb
  replace BK143 := bb BK143 hb
  replace BK144 := bb BK144 hb
  replace BK145 := bb BK145 hb
  replace HB := bs HB hb
  (try clear hb)
  refine hK.out _ _ ⟨ct BK142 0, ct BK142 1, ct BK143 0, ct BK143 1⟩ (fun hHeld => ?_)
  clear hK K
  refine nr_ (some 9) ?_
  refine o1_ 3 (some 11) (m_ 6 15) rfl rfl (by kernel_rfl) (fun K hK => ?_)
  refine gs_ rfl Tryd.func91 (frac_wide_long.calls _ _ _ _ A4.out) ag ?_
  intro w11 hb
  replace BK142 := bb BK142 hb
  replace BK143 := bb BK143 hb
  replace BK144 := bb BK144 hb
  replace BK145 := bb BK145 hb
  replace HB := bs HB hb
  (try clear hb)
  refine hK.out _ _ ⟨ct BK142 0, ct BK142 1, ct BK143 0, ct BK143 1⟩ (fun hHeld => ?_)
  clear hK K
  refine nr_ (some 11) ?_
  refine pu_ 4 (some 12) (m_ 6 31) rfl rfl (by kernel_rfl) ?_
  refine pu_ 5 (some 6) (m_ 6 63) rfl rfl (by kernel_rfl) ?_
  refine done_ (by kernel_rfl) ?_
  try go_wp2
  go_loopg [6] k (fun kq v6 w' => ∃ (x6_1 : Int) (x143000_1 : Int) (x143001_1 : Int) (x146000_1 : Int) (x146001_1 : Int), v6 = .int .i64 x6_1 ∧ Aside0 (frac_wide_over.l0 kq x6_1 x143000_1 x143001_1 a1_0 a1_1 x146000_1 x146001_1 = some (r1, r2)) ∧ Aside0 (kq ≤ k) ∧ Aside0 (w'.heap[gb142]? = some (.cells #[.int .u64 x143000_1, .int .u64 x143001_1] 67 (0, 0))) ∧ Aside0 (w'.heap[gb143]? = some (.cells #[.int .u64 a1_0, .int .u64 a1_1] 67 (0, 0))) ∧ Aside0 (w'.heap[gb144]? = some (.cells #[.int .u64 0, .int .u64 0] 67 (0, 0))) ∧ Aside0 (w'.heap[gb145]? = some (.cells #[.int .u64 x146000_1, .int .u64 x146001_1] 67 (0, 0))) ∧ Aside0 (Below w.heap.size w w'))
  case atStart => exact ⟨(wrap64 (t146 - t147)), (a0_0), (a0_1), (0), (0), (aq), H', ⟨Nat.le_refl _⟩, bu_ BK142, bu_ BK143, bu_ BK144, bu_ BK145, ⟨bf HB⟩⟩
  case round =>
    clear H'
    try clear p2
    try clear c6
    try clear p6
    try clear c9
    obtain ⟨x6_1, x143000_1, x143001_1, x146000_1, x146001_1, rfl, HA, HK1, BK142, BK143, BK144, BK145, HB⟩ := hrel
    cases gk with
    | zero => exact absurd HA.out (by simp [frac_wide_over.l0])
    | succ k1 =>
      have H := HA.out
      clear HA
      simp only [frac_wide_over.l0] at H
      by_cases c12 : x6_1 ≥ 0
      · rw [if_pos c12] at H
        have c12b0 : decide (0 ≤ x6_1) = true := decide_eq_true c12
        clear c12
        replace H := bi_ H; obtain ⟨⟨t148, t149⟩, A13, H⟩ := H
        (try dsimp only at H)
        replace H := bi_ H; obtain ⟨⟨t150, t151⟩, A14, H⟩ := H
        (try dsimp only at H)
        replace H := bi_ H; obtain ⟨t153, A15, H⟩ := H
        (try dsimp only at H)
        by_cases c16 : t153 ≤ 0
        · rw [if_pos c16] at H
          have c16b0 : decide (t153 ≤ 0) = true := decide_eq_true c16
          clear c16
          replace H := bi_ H; obtain ⟨⟨t154, t155⟩, A17, H⟩ := H
          (try dsimp only at H)
          have H' := Aside0.mk H
          clear H
          have hnb18 := nn NB145_142
          have hnb19 := nn NB145_143
          have hnb20 := nn NB145_144
          have hcz21 := X.k2 BK145
          go_wp2_with (first | ((with_reducible refine gc 90 rfl ?_); refine gm_ (some 18) rfl rfl Tryd.func90 (frac_wide_up.calls _ _ _ _ _ _ A13.out) ag ?_; intro w22 hb; replace BK142 := bb BK142 hb; replace BK143 := bb BK143 hb; replace BK144 := bb BK144 hb; replace BK145 := bb BK145 hb; replace HB := bs HB hb; (try clear hb); have hcz23 := X.k2 BK145; have hnb24 := nn NB143_142; have hnb25 := nn NB143_144; have hcz26 := X.k2 BK143) | ((with_reducible refine gc 90 rfl ?_); refine gm_ (some 21) rfl rfl Tryd.func90 (frac_wide_up.calls _ _ _ _ _ _ A14.out) ag ?_; intro w27 hb; replace BK142 := bb BK142 hb; replace BK143 := bb BK143 hb; replace BK144 := bb BK144 hb; replace BK145 := bp_ #[.int .u64 t148, .int .u64 t149] BK145 hb; replace HB := bs HB hb; (try clear hb)) | ((with_reducible refine gd 7 rfl ?_); refine bx_ 7 67 #[.int .u64 0, .int .u64 0] rfl rfl ?_; intro gb152 hg w28 BK152 hb; have GE152 := bz HB hg; have ⟨NB142_152, NB152_142⟩ := nb BK142 hg; have ⟨NB143_152, NB152_143⟩ := nb BK143 hg; have ⟨NB144_152, NB152_144⟩ := nb BK144 hg; have ⟨NB145_152, NB152_145⟩ := nb BK145 hg; replace BK142 := bb BK142 hb; replace BK143 := bb BK143 hb; replace BK144 := bb BK144 hb; replace BK145 := bb BK145 hb; replace HB := bs HB hb; clear hb hg; have hnb29 := nn NB152_142; have hnb30 := nn NB152_143; have hnb31 := nn NB152_144; have hnb32 := nn NB152_145; have hcz33 := X.k2 BK152; have hnb34 := nn NB142_144; have hcz35 := X.k2 BK142) | ((with_reducible refine gc 88 rfl ?_); refine gm_ (some 24) rfl rfl Tryd.func88 (frac_wide_cmp.calls _ _ _ _ _ _ A15.out) ag ?_; intro w36 hb; replace BK142 := bb BK142 hb; replace BK143 := bb BK143 hb; replace BK144 := bb BK144 hb; replace BK145 := bb BK145 hb; replace BK152 := bp_ #[.int .u64 t150, .int .u64 t151] BK152 hb; replace HB := bs HB hb; (try clear hb); have hcz37 := X.k2 BK142; have hcz38 := X.k2 BK152) | ((with_reducible refine gc 89 rfl ?_); refine gm_ (some 28) rfl rfl Tryd.func89 (frac_wide_minus.calls _ _ _ _ _ _ _ A17.out) ag ?_; intro w39 hb; replace BK142 := bb BK142 hb; replace BK143 := bb BK143 hb; replace BK144 := bb BK144 hb; replace BK145 := bb BK145 hb; replace HB := bs HB hb; (try clear hb); have hcz40 := X.k2 BK142; have hcz41 := X.k2 BK145))
          go_roundg k1
          case measure => have := HK1.out; omega
          case rel => exact ⟨(wrap64 (x6_1 - 1)), (t154), (t155), (t148), (Go.bits .or .u64 t149 1), (aq), H', ⟨by have := HK1.out; omega⟩, bq_ BK142, bu_ BK143, bu_ BK144, bq_ BK145, ⟨bf HB⟩⟩
        · rw [if_neg c16] at H
          have c16b0 : decide (t153 ≤ 0) = false := decide_eq_false c16
          clear c16
          have H' := Aside0.mk H
          clear H
          have hnb42 := nn NB145_142
          have hnb43 := nn NB145_143
          have hnb44 := nn NB145_144
          have hcz45 := X.k2 BK145
          go_wp2_with (first | ((with_reducible refine gc 90 rfl ?_); refine gm_ (some 18) rfl rfl Tryd.func90 (frac_wide_up.calls _ _ _ _ _ _ A13.out) ag ?_; intro w46 hb; replace BK142 := bb BK142 hb; replace BK143 := bb BK143 hb; replace BK144 := bb BK144 hb; replace BK145 := bb BK145 hb; replace HB := bs HB hb; (try clear hb); have hcz47 := X.k2 BK145; have hnb48 := nn NB143_142; have hnb49 := nn NB143_144; have hcz50 := X.k2 BK143) | ((with_reducible refine gc 90 rfl ?_); refine gm_ (some 21) rfl rfl Tryd.func90 (frac_wide_up.calls _ _ _ _ _ _ A14.out) ag ?_; intro w51 hb; replace BK142 := bb BK142 hb; replace BK143 := bb BK143 hb; replace BK144 := bb BK144 hb; replace BK145 := bp_ #[.int .u64 t148, .int .u64 t149] BK145 hb; replace HB := bs HB hb; (try clear hb)) | ((with_reducible refine gd 7 rfl ?_); refine bx_ 7 67 #[.int .u64 0, .int .u64 0] rfl rfl ?_; intro gb152 hg w52 BK152 hb; have GE152 := bz HB hg; have ⟨NB142_152, NB152_142⟩ := nb BK142 hg; have ⟨NB143_152, NB152_143⟩ := nb BK143 hg; have ⟨NB144_152, NB152_144⟩ := nb BK144 hg; have ⟨NB145_152, NB152_145⟩ := nb BK145 hg; replace BK142 := bb BK142 hb; replace BK143 := bb BK143 hb; replace BK144 := bb BK144 hb; replace BK145 := bb BK145 hb; replace HB := bs HB hb; clear hb hg; have hnb53 := nn NB152_142; have hnb54 := nn NB152_143; have hnb55 := nn NB152_144; have hnb56 := nn NB152_145; have hcz57 := X.k2 BK152; have hnb58 := nn NB142_144; have hcz59 := X.k2 BK142) | ((with_reducible refine gc 88 rfl ?_); refine gm_ (some 24) rfl rfl Tryd.func88 (frac_wide_cmp.calls _ _ _ _ _ _ A15.out) ag ?_; intro w60 hb; replace BK142 := bb BK142 hb; replace BK143 := bb BK143 hb; replace BK144 := bb BK144 hb; replace BK145 := bb BK145 hb; replace BK152 := bp_ #[.int .u64 t150, .int .u64 t151] BK152 hb; replace HB := bs HB hb; (try clear hb)))
          go_roundg k1
          case measure => have := HK1.out; omega
          case rel => exact ⟨(wrap64 (x6_1 - 1)), (x143000_1), (x143001_1), (t148), (t149), (aq), H', ⟨by have := HK1.out; omega⟩, bu_ BK142, bu_ BK143, bu_ BK144, bu_ BK145, ⟨bf HB⟩⟩
      · rw [if_neg c12] at H
        have c12b0 : decide (0 ≤ x6_1) = false := decide_eq_false c12
        clear c12
        simp only [Option.some.injEq, Prod.mk.injEq] at H
        obtain ⟨rfl, rfl⟩ := H
        have hnb61 := nn NB145_142
        have hnb62 := nn NB145_143
        have hnb63 := nn NB145_144
        have hcz64 := X.k2 BK145
        have hnb65 := nn NB144_142
        have hnb66 := nn NB144_143
        have hcz67 := X.k2 BK144
        go_wp2
        refine bodyPost_ret (results_cell_row rfl _ _ gb144 67 #[.int .u64 x146000_1, .int .u64 x146001_1] (0, 0) _ rfl (br_ BK144) Tryd.underlying67 rfl (by kernel_rfl)) rfl ?_
        exact ⟨ae, bf HB⟩

/-! ### frac_signed_whole: function 70 -/
theorem frac_signed_whole.calls (a0_0 : Bool) (a0_1 : Int) (a0_2 : Int) (r1 : Int) (r2 : Bool) (w : World) (h : frac_signed_whole.f a0_0 a0_1 a0_2 = some (r1, r2)) :
    Calls Tryd.prog 70 #[.agg #[.bool a0_0, .int .u64 a0_1, .int .u64 a0_2]] w fun e w' => e = .returned (.tuple #[.int .i64 r1, .bool r2]) ∧ Below w.heap.size w w' := by
  have hu69 := Tryd.underlying69
  have HB := Aside0.mk (Below.refl w.heap.size w)
  have H : (if a0_1 = 0 then (if a0_0 = true then (some (wrap64 (IntKind.u64.wrap (-a0_2)), decide (a0_2 ≤ 9223372036854775808))) else (some (wrap64 (a0_2), decide (a0_2 < 9223372036854775808)))) else (some (0, false))) = some (r1, r2) := h
  clear h
  by_cases c2 : a0_1 = 0
  · rw [if_pos c2] at H
    have c2b0 : (a0_1 == 0) = true := beq_iff_eq.mpr c2
    have c2b1 : (a0_1 != 0) = false := bne_eq_false_iff_eq.mpr c2
    clear c2
    by_cases c3 : a0_0 = true
    · subst c3
      have H1 : (some (wrap64 (IntKind.u64.wrap (-a0_2)), decide (a0_2 ≤ 9223372036854775808))) = some (r1, r2) := by rw [if_pos rfl] at H; exact H
      clear H
      have H := H1
      clear H1
      simp only [Option.some.injEq, Prod.mk.injEq] at H
      obtain ⟨rfl, rfl⟩ := H
      go_enter Tryd.func70, Tryd.ntmps70
      go_wp2_with (first | ((with_reducible refine gd 1 rfl ?_); refine bx_ 1 69 #[.bool true, .int .u64 a0_1, .int .u64 a0_2] rfl rfl ?_; intro gb156 hg w4 BK156 hb; have GE156 := bz HB hg; replace HB := bs HB hb; clear hb hg; have hcz5 := X.k3 BK156))
      repeat (go_quiet (first | ((with_reducible refine gd 1 rfl ?_); refine bx_ 1 69 #[.bool true, .int .u64 a0_1, .int .u64 a0_2] rfl rfl ?_; intro gb156 hg w4 BK156 hb; have GE156 := bz HB hg; replace HB := bs HB hb; clear hb hg; have hcz5 := X.k3 BK156)); try go_wp2_with (first | ((with_reducible refine gd 1 rfl ?_); refine bx_ 1 69 #[.bool true, .int .u64 a0_1, .int .u64 a0_2] rfl rfl ?_; intro gb156 hg w4 BK156 hb; have GE156 := bz HB hg; replace HB := bs HB hb; clear hb hg; have hcz5 := X.k3 BK156)))
      go_ret2
      exact ⟨ae, bf HB⟩
    · replace c3 := Bool.eq_false_iff.mpr c3
      subst c3
      have H1 : (some (wrap64 (a0_2), decide (a0_2 < 9223372036854775808))) = some (r1, r2) := by rw [if_neg (show ¬ (false = true) by decide)] at H; exact H
      clear H
      have H := H1
      clear H1
      simp only [Option.some.injEq, Prod.mk.injEq] at H
      obtain ⟨rfl, rfl⟩ := H
      go_enter Tryd.func70, Tryd.ntmps70
      go_wp2_with (first | ((with_reducible refine gd 1 rfl ?_); refine bx_ 1 69 #[.bool false, .int .u64 a0_1, .int .u64 a0_2] rfl rfl ?_; intro gb156 hg w6 BK156 hb; have GE156 := bz HB hg; replace HB := bs HB hb; clear hb hg; have hcz7 := X.k3 BK156))
      repeat (go_quiet (first | ((with_reducible refine gd 1 rfl ?_); refine bx_ 1 69 #[.bool false, .int .u64 a0_1, .int .u64 a0_2] rfl rfl ?_; intro gb156 hg w6 BK156 hb; have GE156 := bz HB hg; replace HB := bs HB hb; clear hb hg; have hcz7 := X.k3 BK156)); try go_wp2_with (first | ((with_reducible refine gd 1 rfl ?_); refine bx_ 1 69 #[.bool false, .int .u64 a0_1, .int .u64 a0_2] rfl rfl ?_; intro gb156 hg w6 BK156 hb; have GE156 := bz HB hg; replace HB := bs HB hb; clear hb hg; have hcz7 := X.k3 BK156)))
      go_ret2
      exact ⟨ae, bf HB⟩
  · rw [if_neg c2] at H
    have c2b0 : (a0_1 == 0) = false := beq_eq_false_iff_ne.mpr c2
    have c2b1 : (a0_1 != 0) = true := bne_iff_ne.mpr c2
    simp only [Option.some.injEq, Prod.mk.injEq] at H
    obtain ⟨rfl, rfl⟩ := H
    go_enter Tryd.func70, Tryd.ntmps70
    go_wp2_with (first | ((with_reducible refine gd 1 rfl ?_); refine bx_ 1 69 #[.bool a0_0, .int .u64 a0_1, .int .u64 a0_2] rfl rfl ?_; intro gb156 hg w8 BK156 hb; have GE156 := bz HB hg; replace HB := bs HB hb; clear hb hg; have hcz9 := X.k3 BK156))
    repeat (go_quiet (first | ((with_reducible refine gd 1 rfl ?_); refine bx_ 1 69 #[.bool a0_0, .int .u64 a0_1, .int .u64 a0_2] rfl rfl ?_; intro gb156 hg w8 BK156 hb; have GE156 := bz HB hg; replace HB := bs HB hb; clear hb hg; have hcz9 := X.k3 BK156)); try go_wp2_with (first | ((with_reducible refine gd 1 rfl ?_); refine bx_ 1 69 #[.bool a0_0, .int .u64 a0_1, .int .u64 a0_2] rfl rfl ?_; intro gb156 hg w8 BK156 hb; have GE156 := bz HB hg; replace HB := bs HB hb; clear hb hg; have hcz9 := X.k3 BK156)))
    go_ret2
    exact ⟨ae, bf HB⟩

end Go.Proofs.YtcdaedhphdmnoaaDoor.X
