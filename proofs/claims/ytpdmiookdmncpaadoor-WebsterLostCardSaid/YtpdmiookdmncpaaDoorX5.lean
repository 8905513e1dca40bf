/- Walks: each '.calls' says that the Go function comes to what its Lean function tells. Conditions: as each theorem's head says. -/
import Derived.Test.YtpdmiookdmncpaaDoorXD
import Derived.Test.YtpdmiookdmncpaaDoorX0
import Derived.Test.YtpdmiookdmncpaaDoorX2
import Derived.Test.YtpdmiookdmncpaaDoorX3
import Derived.Test.YtpdmiookdmncpaaDoorX4
namespace Go.Proofs.YtpdmiookdmncpaaDoor.X
open Go.RowKit Go.Proofs.YtpdmiookdmncpaaDoorW.PrintWords Go.Proofs.YtpdmiookdmncpaaDoorW.PrintLast Go.Proofs.YtpdmiookdmncpaaDoorW.PrintMore
attribute [local go_sem] max2_int min2_int max_two min_two max_three min_three max_four min_four   -- for this text's walks alone
set_option linter.unusedVariables false
set_option maxHeartbeats 8000000
set_option maxRecDepth 100000
set_option linter.unusedSimpArgs false

/-! ### frac_wide_over: function 88 -/
theorem frac_wide_over.calls (k : Nat) (a0_0 : Int) (a0_1 : Int) (a1_0 : Int) (a1_1 : Int) (r1 : Int) (r2 : Int) (w : World) (h : frac_wide_over.f k a0_0 a0_1 a1_0 a1_1 = some (r1, r2)) :
    Calls Tryd.prog 88 #[.agg #[.int .u64 a0_0, .int .u64 a0_1], .agg #[.int .u64 a1_0, .int .u64 a1_1]] w fun e w' => e = .returned (.agg #[.int .u64 r1, .int .u64 r2]) ∧ Below w.heap.size w w' := by
  have hu104 := Tryd.underlying104
  have HB := Aside0.mk (Below.refl w.heap.size w)
  have H : ((frac_wide_long.f a0_0 a0_1).bind fun t157 => ((frac_wide_long.f a1_0 a1_1).bind fun t158 => (frac_wide_over.l0 k (wrap64 (t157 - t158)) a0_0 a0_1 a1_0 a1_1 0 0))) = some (r1, r2) := h
  clear h
  replace H := bi_ H; obtain ⟨t157, A3, H⟩ := H
  (try dsimp only at H)
  replace H := bi_ H; obtain ⟨t158, A4, H⟩ := H
  (try dsimp only at H)
  have H' := Aside0.mk H
  clear H
  go_enter Tryd.func88, Tryd.ntmps88
  try go_wp2_with (first | ((with_reducible refine gd 2 rfl ?_); refine bx_ 2 104 #[.int .u64 a0_0, .int .u64 a0_1] rfl rfl ?_; intro gb153 hg w5 BK153 hb; have GE153 := bz HB hg; replace HB := bs HB hb; clear hb hg) | ((with_reducible refine gd 3 rfl ?_); refine bx_ 3 104 #[.int .u64 a1_0, .int .u64 a1_1] rfl rfl ?_; intro gb154 hg w6 BK154 hb; have GE154 := bz HB hg; have ⟨NB153_154, NB154_153⟩ := nb BK153 hg; replace BK153 := bb BK153 hb; replace HB := bs HB hb; clear hb hg) | ((with_reducible refine gd 4 rfl ?_); refine bx_ 4 104 #[.int .u64 0, .int .u64 0] rfl rfl ?_; intro gb155 hg w7 BK155 hb; have GE155 := bz HB hg; have ⟨NB153_155, NB155_153⟩ := nb BK153 hg; have ⟨NB154_155, NB155_154⟩ := nb BK154 hg; replace BK153 := bb BK153 hb; replace BK154 := bb BK154 hb; replace HB := bs HB hb; clear hb hg) | ((with_reducible refine gd 5 rfl ?_); refine bx_ 5 104 #[.int .u64 0, .int .u64 0] rfl rfl ?_; intro gb156 hg w8 BK156 hb; have GE156 := bz HB hg; have ⟨NB153_156, NB156_153⟩ := nb BK153 hg; have ⟨NB154_156, NB156_154⟩ := nb BK154 hg; have ⟨NB155_156, NB156_155⟩ := nb BK155 hg; replace BK153 := bb BK153 hb; replace BK154 := bb BK154 hb; replace BK155 := bb BK155 hb; replace HB := bs HB hb; clear hb hg))
  replace BK153 := Aside0.mk (blk_drew BK153.out)
  replace BK154 := Aside0.mk (blk_drew BK154.out)
  replace BK155 := Aside0.mk (blk_drew BK155.out)
  replace BK156 := Aside0.mk (blk_drew BK156.out)
  replace HB := Aside0.mk (below_drew1 HB.out)
  refine start_ (n := 6) (S := fun w' => c_ w' gb153 0 (.int .u64 a0_0) ∧ c_ w' gb153 1 (.int .u64 a0_1) ∧ c_ w' gb154 0 (.int .u64 a1_0) ∧ c_ w' gb154 1 (.int .u64 a1_1)) (ds := []) (m_ 6 0) (by kernel_rfl) rfl rfl ⟨ct BK153 0, ct BK153 1, ct BK154 0, ct BK154 1⟩ (fun hHeld => ?_)
  generalize w8.drew = w9 at BK153 BK154 BK155 BK156 HB hHeld ⊢
  refine tk_ 0 (some 8) (m_ 6 1) rfl rfl (by kernel_rfl) hHeld ?_
  refine tk_ 2 (some 10) (m_ 6 5) rfl rfl (by kernel_rfl) hHeld ?_
  refine o1_ 1 (some 9) (m_ 6 7) rfl rfl (by kernel_rfl) (fun K hK => ?_)
  refine gs_ rfl Tryd.func106 (frac_wide_long.calls _ _ _ _ A3.out) ag ?_
  intro w10 hb
  replace BK153 := bb BK153 hb
  replace BK154 := bb BK154 hb
  replace BK155 := bb BK155 hb
  replace BK156 := bb BK156 hb
  replace HB := bs HB hb
  (try clear hb)
  refine hK.out _ _ ⟨ct BK153 0, ct BK153 1, ct BK154 0, ct BK154 1⟩ (fun hHeld => ?_)
  clear hK K
  refine nr_ (some 9) ?_
  refine o1_ 3 (some 11) (m_ 6 15) rfl rfl (by kernel_rfl) (fun K hK => ?_)
  refine gs_ rfl Tryd.func106 (frac_wide_long.calls _ _ _ _ A4.out) ag ?_
  intro w11 hb
  replace BK153 := bb BK153 hb
  replace BK154 := bb BK154 hb
  replace BK155 := bb BK155 hb
  replace BK156 := bb BK156 hb
  replace HB := bs HB hb
  (try clear hb)
  refine hK.out _ _ ⟨ct BK153 0, ct BK153 1, ct BK154 0, ct BK154 1⟩ (fun hHeld => ?_)
  clear hK K
  refine nr_ (some 11) ?_
  refine pu_ 4 (some 12) (m_ 6 31) rfl rfl (by kernel_rfl) ?_
  refine pu_ 5 (some 6) (m_ 6 63) rfl rfl (by kernel_rfl) ?_
  refine done_ (by kernel_rfl) ?_
  try go_wp2
  go_loopg [6] k (fun kq v6 w' => ∃ (x6_1 : Int) (x154000_1 : Int) (x154001_1 : Int) (x157000_1 : Int) (x157001_1 : Int), v6 = .int .i64 x6_1 ∧ Aside0 (frac_wide_over.l0 kq x6_1 x154000_1 x154001_1 a1_0 a1_1 x157000_1 x157001_1 = some (r1, r2)) ∧ Aside0 (kq ≤ k) ∧ Aside0 (w'.heap[gb153]? = some (.cells #[.int .u64 x154000_1, .int .u64 x154001_1] 104 (0, 0))) ∧ Aside0 (w'.heap[gb154]? = some (.cells #[.int .u64 a1_0, .int .u64 a1_1] 104 (0, 0))) ∧ Aside0 (w'.heap[gb155]? = some (.cells #[.int .u64 0, .int .u64 0] 104 (0, 0))) ∧ Aside0 (w'.heap[gb156]? = some (.cells #[.int .u64 x157000_1, .int .u64 x157001_1] 104 (0, 0))) ∧ Aside0 (Below w.heap.size w w'))
  case atStart => exact ⟨(wrap64 (t157 - t158)), (a0_0), (a0_1), (0), (0), (aq), H', ⟨Nat.le_refl _⟩, bu_ BK153, bu_ BK154, bu_ BK155, bu_ BK156, ⟨bf HB⟩⟩
  case round =>
    clear H'
    try clear c1
    try clear p2
    try clear p6
    try clear c8
    try clear c10
    obtain ⟨x6_1, x154000_1, x154001_1, x157000_1, x157001_1, rfl, HA, HK1, BK153, BK154, BK155, BK156, HB⟩ := hrel
    cases gk with
    | zero => exact absurd HA.out (by simp [frac_wide_over.l0])
    | succ k1 =>
      have H := HA.out
      clear HA
      simp only [frac_wide_over.l0] at H
      by_cases c12 : x6_1 ≥ 0
      · rw [if_pos c12] at H
        have c12b0 : decide (0 ≤ x6_1) = true := decide_eq_true c12
        clear c12
        replace H := bi_ H; obtain ⟨⟨t159, t160⟩, A13, H⟩ := H
        (try dsimp only at H)
        replace H := bi_ H; obtain ⟨⟨t161, t162⟩, A14, H⟩ := H
        (try dsimp only at H)
        replace H := bi_ H; obtain ⟨t164, A15, H⟩ := H
        (try dsimp only at H)
        by_cases c16 : t164 ≤ 0
        · rw [if_pos c16] at H
          have c16b0 : decide (t164 ≤ 0) = true := decide_eq_true c16
          clear c16
          replace H := bi_ H; obtain ⟨⟨t165, t166⟩, A17, H⟩ := H
          (try dsimp only at H)
          have H' := Aside0.mk H
          clear H
          have hnb18 := nn NB156_153
          have hnb19 := nn NB156_154
          have hnb20 := nn NB156_155
          have hcz21 := k2 BK156
          go_wp2_with (first | ((with_reducible refine gc 105 rfl ?_); refine gm_ (some 18) rfl rfl Tryd.func105 (frac_wide_up.calls _ _ _ _ _ _ A13.out) ag ?_; intro w22 hb; replace BK153 := bb BK153 hb; replace BK154 := bb BK154 hb; replace BK155 := bb BK155 hb; replace BK156 := bb BK156 hb; replace HB := bs HB hb; (try clear hb); have hcz23 := k2 BK156; have hnb24 := nn NB154_153; have hnb25 := nn NB154_155; have hcz26 := k2 BK154) | ((with_reducible refine gc 105 rfl ?_); refine gm_ (some 21) rfl rfl Tryd.func105 (frac_wide_up.calls _ _ _ _ _ _ A14.out) ag ?_; intro w27 hb; replace BK153 := bb BK153 hb; replace BK154 := bb BK154 hb; replace BK155 := bb BK155 hb; replace BK156 := bp_ #[.int .u64 t159, .int .u64 t160] BK156 hb; replace HB := bs HB hb; (try clear hb)) | ((with_reducible refine gd 7 rfl ?_); refine bx_ 7 104 #[.int .u64 0, .int .u64 0] rfl rfl ?_; intro gb163 hg w28 BK163 hb; have GE163 := bz HB hg; have ⟨NB153_163, NB163_153⟩ := nb BK153 hg; have ⟨NB154_163, NB163_154⟩ := nb BK154 hg; have ⟨NB155_163, NB163_155⟩ := nb BK155 hg; have ⟨NB156_163, NB163_156⟩ := nb BK156 hg; replace BK153 := bb BK153 hb; replace BK154 := bb BK154 hb; replace BK155 := bb BK155 hb; replace BK156 := bb BK156 hb; replace HB := bs HB hb; clear hb hg; have hnb29 := nn NB163_153; have hnb30 := nn NB163_154; have hnb31 := nn NB163_155; have hnb32 := nn NB163_156; have hcz33 := k2 BK163; have hnb34 := nn NB153_155; have hcz35 := k2 BK153) | ((with_reducible refine gc 103 rfl ?_); refine gm_ (some 24) rfl rfl Tryd.func103 (frac_wide_cmp.calls _ _ _ _ _ _ A15.out) ag ?_; intro w36 hb; replace BK153 := bb BK153 hb; replace BK154 := bb BK154 hb; replace BK155 := bb BK155 hb; replace BK156 := bb BK156 hb; replace BK163 := bp_ #[.int .u64 t161, .int .u64 t162] BK163 hb; replace HB := bs HB hb; (try clear hb); have hcz37 := k2 BK153; have hcz38 := k2 BK163) | ((with_reducible refine gc 104 rfl ?_); refine gm_ (some 28) rfl rfl Tryd.func104 (frac_wide_minus.calls _ _ _ _ _ _ _ A17.out) ag ?_; intro w39 hb; replace BK153 := bb BK153 hb; replace BK154 := bb BK154 hb; replace BK155 := bb BK155 hb; replace BK156 := bb BK156 hb; replace HB := bs HB hb; (try clear hb); have hcz40 := k2 BK153; have hcz41 := k2 BK156))
          go_roundg k1
          case measure => have := HK1.out; omega
          case rel => exact ⟨(wrap64 (x6_1 - 1)), (t165), (t166), (t159), (Go.bits .or .u64 t160 1), (aq), H', ⟨by have := HK1.out; omega⟩, bq_ BK153, bu_ BK154, bu_ BK155, bq_ BK156, ⟨bf HB⟩⟩
        · rw [if_neg c16] at H
          have c16b0 : decide (t164 ≤ 0) = false := decide_eq_false c16
          clear c16
          have H' := Aside0.mk H
          clear H
          have hnb42 := nn NB156_153
          have hnb43 := nn NB156_154
          have hnb44 := nn NB156_155
          have hcz45 := k2 BK156
          go_wp2_with (first | ((with_reducible refine gc 105 rfl ?_); refine gm_ (some 18) rfl rfl Tryd.func105 (frac_wide_up.calls _ _ _ _ _ _ A13.out) ag ?_; intro w46 hb; replace BK153 := bb BK153 hb; replace BK154 := bb BK154 hb; replace BK155 := bb BK155 hb; replace BK156 := bb BK156 hb; replace HB := bs HB hb; (try clear hb); have hcz47 := k2 BK156; have hnb48 := nn NB154_153; have hnb49 := nn NB154_155; have hcz50 := k2 BK154) | ((with_reducible refine gc 105 rfl ?_); refine gm_ (some 21) rfl rfl Tryd.func105 (frac_wide_up.calls _ _ _ _ _ _ A14.out) ag ?_; intro w51 hb; replace BK153 := bb BK153 hb; replace BK154 := bb BK154 hb; replace BK155 := bb BK155 hb; replace BK156 := bp_ #[.int .u64 t159, .int .u64 t160] BK156 hb; replace HB := bs HB hb; (try clear hb)) | ((with_reducible refine gd 7 rfl ?_); refine bx_ 7 104 #[.int .u64 0, .int .u64 0] rfl rfl ?_; intro gb163 hg w52 BK163 hb; have GE163 := bz HB hg; have ⟨NB153_163, NB163_153⟩ := nb BK153 hg; have ⟨NB154_163, NB163_154⟩ := nb BK154 hg; have ⟨NB155_163, NB163_155⟩ := nb BK155 hg; have ⟨NB156_163, NB163_156⟩ := nb BK156 hg; replace BK153 := bb BK153 hb; replace BK154 := bb BK154 hb; replace BK155 := bb BK155 hb; replace BK156 := bb BK156 hb; replace HB := bs HB hb; clear hb hg; have hnb53 := nn NB163_153; have hnb54 := nn NB163_154; have hnb55 := nn NB163_155; have hnb56 := nn NB163_156; have hcz57 := k2 BK163; have hnb58 := nn NB153_155; have hcz59 := k2 BK153) | ((with_reducible refine gc 103 rfl ?_); refine gm_ (some 24) rfl rfl Tryd.func103 (frac_wide_cmp.calls _ _ _ _ _ _ A15.out) ag ?_; intro w60 hb; replace BK153 := bb BK153 hb; replace BK154 := bb BK154 hb; replace BK155 := bb BK155 hb; replace BK156 := bb BK156 hb; replace BK163 := bp_ #[.int .u64 t161, .int .u64 t162] BK163 hb; replace HB := bs HB hb; (try clear hb)))
          go_roundg k1
          case measure => have := HK1.out; omega
          case rel => exact ⟨(wrap64 (x6_1 - 1)), (x154000_1), (x154001_1), (t159), (t160), (aq), H', ⟨by have := HK1.out; omega⟩, bu_ BK153, bu_ BK154, bu_ BK155, bu_ BK156, ⟨bf HB⟩⟩
      · rw [if_neg c12] at H
        have c12b0 : decide (0 ≤ x6_1) = false := decide_eq_false c12
        clear c12
        simp only [Option.some.injEq, Prod.mk.injEq] at H
        obtain ⟨rfl, rfl⟩ := H
        have hnb61 := nn NB156_153
        have hnb62 := nn NB156_154
        have hnb63 := nn NB156_155
        have hcz64 := k2 BK156
        have hnb65 := nn NB155_153
        have hnb66 := nn NB155_154
        have hcz67 := k2 BK155
        go_wp2
        refine bodyPost_ret (results_cell_row rfl _ _ gb155 104 #[.int .u64 x157000_1, .int .u64 x157001_1] (0, 0) _ rfl (br_ BK155) Tryd.underlying104 rfl (by kernel_rfl)) rfl ?_
        exact ⟨ae, bf HB⟩

/-! ### frac_signed_whole: function 89 -/
theorem frac_signed_whole.calls (a0_0 : Bool) (a0_1 : Int) (a0_2 : Int) (r1 : Int) (r2 : Bool) (w : World) (h : frac_signed_whole.f a0_0 a0_1 a0_2 = some (r1, r2)) :
    Calls Tryd.prog 89 #[.agg #[.bool a0_0, .int .u64 a0_1, .int .u64 a0_2]] w fun e w' => e = .returned (.tuple #[.int .i64 r1, .bool r2]) ∧ Below w.heap.size w w' := by
  have hu106 := Tryd.underlying106
  have HB := Aside0.mk (Below.refl w.heap.size w)
  have H : (if a0_1 = 0 then (if a0_0 = true then (some (wrap64 (IntKind.u64.wrap (-a0_2)), decide (a0_2 ≤ 9223372036854775808))) else (some (wrap64 (a0_2), decide (a0_2 < 9223372036854775808)))) else (some (0, false))) = some (r1, r2) := h
  clear h
  by_cases c2 : a0_1 = 0
  · rw [if_pos c2] at H
    have c2b0 : (a0_1 == 0) = true := beq_iff_eq.mpr c2
    have c2b1 : (a0_1 != 0) = false := bne_eq_false_iff_eq.mpr c2
    clear c2
    by_cases c3 : a0_0 = true
    · subst c3
      have H1 : (some (wrap64 (IntKind.u64.wrap (-a0_2)), decide (a0_2 ≤ 9223372036854775808))) = some (r1, r2) := by rw [if_pos rfl] at H; exact H
      clear H
      have H := H1
      clear H1
      simp only [Option.some.injEq, Prod.mk.injEq] at H
      obtain ⟨rfl, rfl⟩ := H
      go_enter Tryd.func89, Tryd.ntmps89
      go_wp2_with (first | ((with_reducible refine gd 1 rfl ?_); refine bx_ 1 106 #[.bool true, .int .u64 a0_1, .int .u64 a0_2] rfl rfl ?_; intro gb167 hg w4 BK167 hb; have GE167 := bz HB hg; replace HB := bs HB hb; clear hb hg; have hcz5 := k3 BK167))
      repeat (go_quiet (first | ((with_reducible refine gd 1 rfl ?_); refine bx_ 1 106 #[.bool true, .int .u64 a0_1, .int .u64 a0_2] rfl rfl ?_; intro gb167 hg w4 BK167 hb; have GE167 := bz HB hg; replace HB := bs HB hb; clear hb hg; have hcz5 := k3 BK167)); try go_wp2_with (first | ((with_reducible refine gd 1 rfl ?_); refine bx_ 1 106 #[.bool true, .int .u64 a0_1, .int .u64 a0_2] rfl rfl ?_; intro gb167 hg w4 BK167 hb; have GE167 := bz HB hg; replace HB := bs HB hb; clear hb hg; have hcz5 := k3 BK167)))
      go_ret2
      exact ⟨ae, bf HB⟩
    · replace c3 := Bool.eq_false_iff.mpr c3
      subst c3
      have H1 : (some (wrap64 (a0_2), decide (a0_2 < 9223372036854775808))) = some (r1, r2) := by rw [if_neg (show ¬ (false = true) by decide)] at H; exact H
      clear H
      have H := H1
      clear H1
      simp only [Option.some.injEq, Prod.mk.injEq] at H
      obtain ⟨rfl, rfl⟩ := H
      go_enter Tryd.func89, Tryd.ntmps89
      go_wp2_with (first | ((with_reducible refine gd 1 rfl ?_); refine bx_ 1 106 #[.bool false, .int .u64 a0_1, .int .u64 a0_2] rfl rfl ?_; intro gb167 hg w6 BK167 hb; have GE167 := bz HB hg; replace HB := bs HB hb; clear hb hg; have hcz7 := k3 BK167))
      repeat (go_quiet (first | ((with_reducible refine gd 1 rfl ?_); refine bx_ 1 106 #[.bool false, .int .u64 a0_1, .int .u64 a0_2] rfl rfl ?_; intro gb167 hg w6 BK167 hb; have GE167 := bz HB hg; replace HB := bs HB hb; clear hb hg; have hcz7 := k3 BK167)); try go_wp2_with (first | ((with_reducible refine gd 1 rfl ?_); refine bx_ 1 106 #[.bool false, .int .u64 a0_1, .int .u64 a0_2] rfl rfl ?_; intro gb167 hg w6 BK167 hb; have GE167 := bz HB hg; replace HB := bs HB hb; clear hb hg; have hcz7 := k3 BK167)))
      go_ret2
      exact ⟨ae, bf HB⟩
  · rw [if_neg c2] at H
    have c2b0 : (a0_1 == 0) = false := beq_eq_false_iff_ne.mpr c2
    have c2b1 : (a0_1 != 0) = true := bne_iff_ne.mpr c2
    simp only [Option.some.injEq, Prod.mk.injEq] at H
    obtain ⟨rfl, rfl⟩ := H
    go_enter Tryd.func89, Tryd.ntmps89
    go_wp2_with (first | ((with_reducible refine gd 1 rfl ?_); refine bx_ 1 106 #[.bool a0_0, .int .u64 a0_1, .int .u64 a0_2] rfl rfl ?_; intro gb167 hg w8 BK167 hb; have GE167 := bz HB hg; replace HB := bs HB hb; clear hb hg; have hcz9 := k3 BK167))
    repeat (go_quiet (first | ((with_reducible refine gd 1 rfl ?_); refine bx_ 1 106 #[.bool a0_0, .int .u64 a0_1, .int .u64 a0_2] rfl rfl ?_; intro gb167 hg w8 BK167 hb; have GE167 := bz HB hg; replace HB := bs HB hb; clear hb hg; have hcz9 := k3 BK167)); try go_wp2_with (first | ((with_reducible refine gd 1 rfl ?_); refine bx_ 1 106 #[.bool a0_0, .int .u64 a0_1, .int .u64 a0_2] rfl rfl ?_; intro gb167 hg w8 BK167 hb; have GE167 := bz HB hg; replace HB := bs HB hb; clear hb hg; have hcz9 := k3 BK167)))
    go_ret2
    exact ⟨ae, bf HB⟩

end Go.Proofs.YtpdmiookdmncpaaDoor.X
