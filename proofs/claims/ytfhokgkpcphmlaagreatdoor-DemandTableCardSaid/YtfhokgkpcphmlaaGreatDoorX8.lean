/- Walks: each '.calls' says that the Go function comes to what its Lean function tells. Conditions: as each theorem's head says. -/
import Derived.Test.YtfhokgkpcphmlaaGreatDoorXD
import Derived.Test.YtfhokgkpcphmlaaGreatDoorX0
import Derived.Test.YtfhokgkpcphmlaaGreatDoorX6
import Derived.Test.YtfhokgkpcphmlaaGreatDoorX7
namespace Go.Proofs.YtfhokgkpcphmlaaGreatDoor.X
open Go.RowKit Go.Proofs.YtfhokgkpcphmlaaGreatDoorW.PrintWords Go.Proofs.YtfhokgkpcphmlaaGreatDoorW.PrintLast Go.Proofs.YtfhokgkpcphmlaaGreatDoorW.PrintMore
attribute [local go_sem] max2_int min2_int max_two min_two max_three min_three max_four min_four   -- for this text's walks alone
set_option linter.unusedVariables false
set_option maxHeartbeats 8000000
set_option maxRecDepth 100000
set_option linter.unusedSimpArgs false

/-! ### frac_wide_over: function 64 -/
theorem frac_wide_over.calls (k : Nat) (a0_0 : Int) (a0_1 : Int) (a1_0 : Int) (a1_1 : Int) (r1 : Int) (r2 : Int) (w : World) (h : frac_wide_over.f k a0_0 a0_1 a1_0 a1_1 = some (r1, r2)) :
  Calls Tryz.prog 64 #[.agg #[.int .u64 a0_0, .int .u64 a0_1], .agg #[.int .u64 a1_0, .int .u64 a1_1]] w fun e w' => e = .returned (.agg #[.int .u64 r1, .int .u64 r2]) ∧ Below w.heap.size w w' := by
 have hu88 := Tryz.underlying88
 have HB := Aside0.mk (Below.refl w.heap.size w)
 have H : ((frac_wide_long.f a0_0 a0_1).bind fun t194 => ((frac_wide_long.f a1_0 a1_1).bind fun t195 => (frac_wide_over.l0 k (wrap64 (t194 - t195)) a0_0 a0_1 a1_0 a1_1 0 0))) = some (r1, r2) := h
 clear h
 replace H := bi_ H; obtain ⟨t194, A3, H⟩ := H
 (try dsimp only at H)
 replace H := bi_ H; obtain ⟨t195, A4, H⟩ := H
 (try dsimp only at H)
 have H' := Aside0.mk H
 clear H
 go_enter Tryz.func64, Tryz.ntmps64
 try go_wp2_with (first | ((with_reducible refine gd 2 rfl ?_); refine bx_ 2 88 #[.int .u64 a0_0, .int .u64 a0_1] rfl rfl ?_; intro gb190 hg w5 BK190 hb; have GE190 := bz HB hg; replace HB := bs HB hb; clear hb hg) | ((with_reducible refine gd 3 rfl ?_); refine bx_ 3 88 #[.int .u64 a1_0, .int .u64 a1_1] rfl rfl ?_; intro gb191 hg w6 BK191 hb; have GE191 := bz HB hg; have ⟨NB190_191, NB191_190⟩ := nb BK190 hg; replace BK190 := bb BK190 hb; replace HB := bs HB hb; clear hb hg) | ((with_reducible refine gd 4 rfl ?_); refine bx_ 4 88 #[.int .u64 0, .int .u64 0] rfl rfl ?_; intro gb192 hg w7 BK192 hb; have GE192 := bz HB hg; have ⟨NB190_192, NB192_190⟩ := nb BK190 hg; have ⟨NB191_192, NB192_191⟩ := nb BK191 hg; replace BK190 := bb BK190 hb; replace BK191 := bb BK191 hb; replace HB := bs HB hb; clear hb hg) | ((with_reducible refine gd 5 rfl ?_); refine bx_ 5 88 #[.int .u64 0, .int .u64 0] rfl rfl ?_; intro gb193 hg w8 BK193 hb; have GE193 := bz HB hg; have ⟨NB190_193, NB193_190⟩ := nb BK190 hg; have ⟨NB191_193, NB193_191⟩ := nb BK191 hg; have ⟨NB192_193, NB193_192⟩ := nb BK192 hg; replace BK190 := bb BK190 hb; replace BK191 := bb BK191 hb; replace BK192 := bb BK192 hb; replace HB := bs HB hb; clear hb hg))
 replace BK190 := Aside0.mk (blk_drew BK190.out)
 replace BK191 := Aside0.mk (blk_drew BK191.out)
 replace BK192 := Aside0.mk (blk_drew BK192.out)
 replace BK193 := Aside0.mk (blk_drew BK193.out)
 replace HB := Aside0.mk (below_drew1 HB.out)
 refine start_ (n := 6) (S := fun w' => c_ w' gb190 0 (.int .u64 a0_0) ∧ c_ w' gb190 1 (.int .u64 a0_1) ∧ c_ w' gb191 0 (.int .u64 a1_0) ∧ c_ w' gb191 1 (.int .u64 a1_1)) (ds := []) (m_ 6 0) (by kernel_rfl) rfl rfl ⟨ct BK190 0, ct BK190 1, ct BK191 0, ct BK191 1⟩ (fun hHeld => ?_)
 generalize w8.drew = w9 at BK190 BK191 BK192 BK193 HB hHeld ⊢
 refine tk_ 0 (some 8) (m_ 6 1) rfl rfl (by kernel_rfl) hHeld ?_
 refine tk_ 2 (some 10) (m_ 6 5) rfl rfl (by kernel_rfl) hHeld ?_
 refine o1_ 1 (some 9) (m_ 6 7) rfl rfl (by kernel_rfl) (fun K hK => ?_)
 refine gs_ rfl Tryz.func92 (frac_wide_long.calls _ _ _ _ A3.out) ag ?_
 intro w10 hb
 replace BK190 := bb BK190 hb
 replace BK191 := bb BK191 hb
 replace BK192 := bb BK192 hb
 replace BK193 := bb BK193 hb
 replace HB := bs HB hb
 (try clear hb)
 refine hK.out _ _ ⟨ct BK190 0, ct BK190 1, ct BK191 0, ct BK191 1⟩ (fun hHeld => ?_)
 clear hK K
 refine nr_ (some 9) ?_
 refine o1_ 3 (some 11) (m_ 6 15) rfl rfl (by kernel_rfl) (fun K hK => ?_)
 refine gs_ rfl Tryz.func92 (frac_wide_long.calls _ _ _ _ A4.out) ag ?_
 intro w11 hb
 replace BK190 := bb BK190 hb
 replace BK191 := bb BK191 hb
 replace BK192 := bb BK192 hb
 replace BK193 := bb BK193 hb
 replace HB := bs HB hb
 (try clear hb)
 refine hK.out _ _ ⟨ct BK190 0, ct BK190 1, ct BK191 0, ct BK191 1⟩ (fun hHeld => ?_)
 clear hK K
 refine nr_ (some 11) ?_
 refine pu_ 4 (some 12) (m_ 6 31) rfl rfl (by kernel_rfl) ?_
 refine pu_ 5 (some 6) (m_ 6 63) rfl rfl (by kernel_rfl) ?_
 refine done_ (by kernel_rfl) ?_
 try go_wp2
 go_loopg [6] k (fun kq v6 w' => ∃ (x6_1 : Int) (x191000_1 : Int) (x191001_1 : Int) (x194000_1 : Int) (x194001_1 : Int), v6 = .int .i64 x6_1 ∧ Aside0 (frac_wide_over.l0 kq x6_1 x191000_1 x191001_1 a1_0 a1_1 x194000_1 x194001_1 = some (r1, r2)) ∧ Aside0 (kq ≤ k) ∧ Aside0 (w'.heap[gb190]? = some (.cells #[.int .u64 x191000_1, .int .u64 x191001_1] 88 (0, 0))) ∧ Aside0 (w'.heap[gb191]? = some (.cells #[.int .u64 a1_0, .int .u64 a1_1] 88 (0, 0))) ∧ Aside0 (w'.heap[gb192]? = some (.cells #[.int .u64 0, .int .u64 0] 88 (0, 0))) ∧ Aside0 (w'.heap[gb193]? = some (.cells #[.int .u64 x194000_1, .int .u64 x194001_1] 88 (0, 0))) ∧ Aside0 (Below w.heap.size w w'))
 case atStart => exact ⟨(wrap64 (t194 - t195)), (a0_0), (a0_1), (0), (0), (aq), H', ⟨Nat.le_refl _⟩, bu_ BK190, bu_ BK191, bu_ BK192, bu_ BK193, ⟨bf HB⟩⟩
 case round =>
  clear H'
  (try clear p2); (try clear c6); (try clear p6); (try clear c9)
  obtain ⟨x6_1, x191000_1, x191001_1, x194000_1, x194001_1, rfl, HA, HK1, BK190, BK191, BK192, BK193, HB⟩ := hrel
  cases gk with
  | zero => exact absurd HA.out (by simp [frac_wide_over.l0])
  | succ k1 =>
   have H := HA.out
   clear HA
   simp only [frac_wide_over.l0] at H
   by_cases c12 : x6_1 ≥ 0
   ·rw [if_pos c12] at H
    have c12b0 : decide (0 ≤ x6_1) = true := decide_eq_true c12
    clear c12
    replace H := bi_ H; obtain ⟨⟨t196, t197⟩, A13, H⟩ := H
    (try dsimp only at H)
    replace H := bi_ H; obtain ⟨⟨t198, t199⟩, A14, H⟩ := H
    (try dsimp only at H)
    replace H := bi_ H; obtain ⟨t201, A15, H⟩ := H
    (try dsimp only at H)
    by_cases c16 : t201 ≤ 0
    ·rw [if_pos c16] at H
     have c16b0 : decide (t201 ≤ 0) = true := decide_eq_true c16
     clear c16
     replace H := bi_ H; obtain ⟨⟨t202, t203⟩, A17, H⟩ := H
     (try dsimp only at H)
     have H' := Aside0.mk H
     clear H
     have hnb18 := nn NB193_190
     have hnb19 := nn NB193_191
     have hnb20 := nn NB193_192
     have hcz21 := X.k2 BK193
     go_wp2_with (first | ((with_reducible refine gc 91 rfl ?_); refine gm_ (some 18) rfl rfl Tryz.func91 (frac_wide_up.calls _ _ _ _ _ _ A13.out) ag ?_; intro w22 hb; replace BK190 := bb BK190 hb; replace BK191 := bb BK191 hb; replace BK192 := bb BK192 hb; replace BK193 := bb BK193 hb; replace HB := bs HB hb; (try clear hb); have hcz23 := X.k2 BK193; have hnb24 := nn NB191_190; have hnb25 := nn NB191_192; have hcz26 := X.k2 BK191) | ((with_reducible refine gc 91 rfl ?_); refine gm_ (some 21) rfl rfl Tryz.func91 (frac_wide_up.calls _ _ _ _ _ _ A14.out) ag ?_; intro w27 hb; replace BK190 := bb BK190 hb; replace BK191 := bb BK191 hb; replace BK192 := bb BK192 hb; replace BK193 := bp_ #[.int .u64 t196, .int .u64 t197] BK193 hb; replace HB := bs HB hb; (try clear hb)) | ((with_reducible refine gd 7 rfl ?_); refine bx_ 7 88 #[.int .u64 0, .int .u64 0] rfl rfl ?_; intro gb200 hg w28 BK200 hb; have GE200 := bz HB hg; have ⟨NB190_200, NB200_190⟩ := nb BK190 hg; have ⟨NB191_200, NB200_191⟩ := nb BK191 hg; have ⟨NB192_200, NB200_192⟩ := nb BK192 hg; have ⟨NB193_200, NB200_193⟩ := nb BK193 hg; replace BK190 := bb BK190 hb; replace BK191 := bb BK191 hb; replace BK192 := bb BK192 hb; replace BK193 := bb BK193 hb; replace HB := bs HB hb; clear hb hg; have hnb29 := nn NB200_190; have hnb30 := nn NB200_191; have hnb31 := nn NB200_192; have hnb32 := nn NB200_193; have hcz33 := X.k2 BK200; have hnb34 := nn NB190_192; have hcz35 := X.k2 BK190) | ((with_reducible refine gc 89 rfl ?_); refine gm_ (some 24) rfl rfl Tryz.func89 (frac_wide_cmp.calls _ _ _ _ _ _ A15.out) ag ?_; intro w36 hb; replace BK190 := bb BK190 hb; replace BK191 := bb BK191 hb; replace BK192 := bb BK192 hb; replace BK193 := bb BK193 hb; replace BK200 := bp_ #[.int .u64 t198, .int .u64 t199] BK200 hb; replace HB := bs HB hb; (try clear hb); have hcz37 := X.k2 BK190; have hcz38 := X.k2 BK200) | ((with_reducible refine gc 90 rfl ?_); refine gm_ (some 28) rfl rfl Tryz.func90 (frac_wide_minus.calls _ _ _ _ _ _ _ A17.out) ag ?_; intro w39 hb; replace BK190 := bb BK190 hb; replace BK191 := bb BK191 hb; replace BK192 := bb BK192 hb; replace BK193 := bb BK193 hb; replace HB := bs HB hb; (try clear hb); have hcz40 := X.k2 BK190; have hcz41 := X.k2 BK193))
     go_roundg k1
     case measure => have := HK1.out; omega
     case rel => exact ⟨(wrap64 (x6_1 - 1)), (t202), (t203), (t196), (Go.bits .or .u64 t197 1), (aq), H', ⟨by have := HK1.out; omega⟩, bq_ BK190, bu_ BK191, bu_ BK192, bq_ BK193, ⟨bf HB⟩⟩
    ·rw [if_neg c16] at H
     have c16b0 : decide (t201 ≤ 0) = false := decide_eq_false c16
     clear c16
     have H' := Aside0.mk H
     clear H
     have hnb42 := nn NB193_190
     have hnb43 := nn NB193_191
     have hnb44 := nn NB193_192
     have hcz45 := X.k2 BK193
     go_wp2_with (first | ((with_reducible refine gc 91 rfl ?_); refine gm_ (some 18) rfl rfl Tryz.func91 (frac_wide_up.calls _ _ _ _ _ _ A13.out) ag ?_; intro w46 hb; replace BK190 := bb BK190 hb; replace BK191 := bb BK191 hb; replace BK192 := bb BK192 hb; replace BK193 := bb BK193 hb; replace HB := bs HB hb; (try clear hb); have hcz47 := X.k2 BK193; have hnb48 := nn NB191_190; have hnb49 := nn NB191_192; have hcz50 := X.k2 BK191) | ((with_reducible refine gc 91 rfl ?_); refine gm_ (some 21) rfl rfl Tryz.func91 (frac_wide_up.calls _ _ _ _ _ _ A14.out) ag ?_; intro w51 hb; replace BK190 := bb BK190 hb; replace BK191 := bb BK191 hb; replace BK192 := bb BK192 hb; replace BK193 := bp_ #[.int .u64 t196, .int .u64 t197] BK193 hb; replace HB := bs HB hb; (try clear hb)) | ((with_reducible refine gd 7 rfl ?_); refine bx_ 7 88 #[.int .u64 0, .int .u64 0] rfl rfl ?_; intro gb200 hg w52 BK200 hb; have GE200 := bz HB hg; have ⟨NB190_200, NB200_190⟩ := nb BK190 hg; have ⟨NB191_200, NB200_191⟩ := nb BK191 hg; have ⟨NB192_200, NB200_192⟩ := nb BK192 hg; have ⟨NB193_200, NB200_193⟩ := nb BK193 hg; replace BK190 := bb BK190 hb; replace BK191 := bb BK191 hb; replace BK192 := bb BK192 hb; replace BK193 := bb BK193 hb; replace HB := bs HB hb; clear hb hg; have hnb53 := nn NB200_190; have hnb54 := nn NB200_191; have hnb55 := nn NB200_192; have hnb56 := nn NB200_193; have hcz57 := X.k2 BK200; have hnb58 := nn NB190_192; have hcz59 := X.k2 BK190) | ((with_reducible refine gc 89 rfl ?_); refine gm_ (some 24) rfl rfl Tryz.func89 (frac_wide_cmp.calls _ _ _ _ _ _ A15.out) ag ?_; intro w60 hb; replace BK190 := bb BK190 hb; replace BK191 := bb BK191 hb; replace BK192 := bb BK192 hb; replace BK193 := bb BK193 hb; replace BK200 := bp_ #[.int .u64 t198, .int .u64 t199] BK200 hb; replace HB := bs HB hb; (try clear hb)))
     go_roundg k1
     case measure => have := HK1.out; omega
     case rel => exact ⟨(wrap64 (x6_1 - 1)), (x191000_1), (x191001_1), (t196), (t197), (aq), H', ⟨by have := HK1.out; omega⟩, bu_ BK190, bu_ BK191, bu_ BK192, bu_ BK193, ⟨bf HB⟩⟩
   ·rw [if_neg c12] at H
    have c12b0 : decide (0 ≤ x6_1) = false := decide_eq_false c12
    clear c12
    simp only [Option.some.injEq, Prod.mk.injEq] at H
    obtain ⟨rfl, rfl⟩ := H
    have hnb61 := nn NB193_190
    have hnb62 := nn NB193_191
    have hnb63 := nn NB193_192
    have hcz64 := X.k2 BK193
    have hnb65 := nn NB192_190
    have hnb66 := nn NB192_191
    have hcz67 := X.k2 BK192
    go_wp2
    refine bodyPost_ret (results_cell_row rfl _ _ gb192 88 #[.int .u64 x194000_1, .int .u64 x194001_1] (0, 0) _ rfl (br_ BK192) Tryz.underlying88 rfl (by kernel_rfl)) rfl ?_
    exact ⟨ae, bf HB⟩

/-! ### frac_signed_whole: function 65 -/
theorem frac_signed_whole.calls (a0_0 : Bool) (a0_1 : Int) (a0_2 : Int) (r1 : Int) (r2 : Bool) (w : World) (h : frac_signed_whole.f a0_0 a0_1 a0_2 = some (r1, r2)) :
  Calls Tryz.prog 65 #[.agg #[.bool a0_0, .int .u64 a0_1, .int .u64 a0_2]] w fun e w' => e = .returned (.tuple #[.int .i64 r1, .bool r2]) ∧ Below w.heap.size w w' := by
 have hu90 := Tryz.underlying90
 have HB := Aside0.mk (Below.refl w.heap.size w)
 have H : (if a0_1 = 0 then (if a0_0 = true then (some (wrap64 (IntKind.u64.wrap (-a0_2)), decide (a0_2 ≤ 9223372036854775808))) else (some (wrap64 (a0_2), decide (a0_2 < 9223372036854775808)))) else (some (0, false))) = some (r1, r2) := h
 clear h
 by_cases c2 : a0_1 = 0
 ·rw [if_pos c2] at H
  have c2b0 : (a0_1 == 0) = true := beq_iff_eq.mpr c2
  have c2b1 : (a0_1 != 0) = false := bne_eq_false_iff_eq.mpr c2
  clear c2
  by_cases c3 : a0_0 = true
  ·subst c3
   have H1 : (some (wrap64 (IntKind.u64.wrap (-a0_2)), decide (a0_2 ≤ 9223372036854775808))) = some (r1, r2) := by rw [if_pos rfl] at H; exact H
   clear H
   have H := H1
   clear H1
   simp only [Option.some.injEq, Prod.mk.injEq] at H
   obtain ⟨rfl, rfl⟩ := H
   go_enter Tryz.func65, Tryz.ntmps65
   go_wp2_with (first | ((with_reducible refine gd 1 rfl ?_); refine bx_ 1 90 #[.bool true, .int .u64 a0_1, .int .u64 a0_2] rfl rfl ?_; intro gb204 hg w4 BK204 hb; have GE204 := bz HB hg; replace HB := bs HB hb; clear hb hg; have hcz5 := X.k3 BK204))
   repeat (go_quiet (first | ((with_reducible refine gd 1 rfl ?_); refine bx_ 1 90 #[.bool true, .int .u64 a0_1, .int .u64 a0_2] rfl rfl ?_; intro gb204 hg w4 BK204 hb; have GE204 := bz HB hg; replace HB := bs HB hb; clear hb hg; have hcz5 := X.k3 BK204)); try go_wp2_with (first | ((with_reducible refine gd 1 rfl ?_); refine bx_ 1 90 #[.bool true, .int .u64 a0_1, .int .u64 a0_2] rfl rfl ?_; intro gb204 hg w4 BK204 hb; have GE204 := bz HB hg; replace HB := bs HB hb; clear hb hg; have hcz5 := X.k3 BK204)))
   go_ret2
   exact ⟨ae, bf HB⟩
  ·replace c3 := Bool.eq_false_iff.mpr c3
   subst c3
   have H1 : (some (wrap64 (a0_2), decide (a0_2 < 9223372036854775808))) = some (r1, r2) := by rw [if_neg (show ¬ (false = true) by decide)] at H; exact H
   clear H
   have H := H1
   clear H1
   simp only [Option.some.injEq, Prod.mk.injEq] at H
   obtain ⟨rfl, rfl⟩ := H
   go_enter Tryz.func65, Tryz.ntmps65
   go_wp2_with (first | ((with_reducible refine gd 1 rfl ?_); refine bx_ 1 90 #[.bool false, .int .u64 a0_1, .int .u64 a0_2] rfl rfl ?_; intro gb204 hg w6 BK204 hb; have GE204 := bz HB hg; replace HB := bs HB hb; clear hb hg; have hcz7 := X.k3 BK204))
   repeat (go_quiet (first | ((with_reducible refine gd 1 rfl ?_); refine bx_ 1 90 #[.bool false, .int .u64 a0_1, .int .u64 a0_2] rfl rfl ?_; intro gb204 hg w6 BK204 hb; have GE204 := bz HB hg; replace HB := bs HB hb; clear hb hg; have hcz7 := X.k3 BK204)); try go_wp2_with (first | ((with_reducible refine gd 1 rfl ?_); refine bx_ 1 90 #[.bool false, .int .u64 a0_1, .int .u64 a0_2] rfl rfl ?_; intro gb204 hg w6 BK204 hb; have GE204 := bz HB hg; replace HB := bs HB hb; clear hb hg; have hcz7 := X.k3 BK204)))
   go_ret2
   exact ⟨ae, bf HB⟩
 ·rw [if_neg c2] at H
  have c2b0 : (a0_1 == 0) = false := beq_eq_false_iff_ne.mpr c2
  have c2b1 : (a0_1 != 0) = true := bne_iff_ne.mpr c2
  simp only [Option.some.injEq, Prod.mk.injEq] at H
  obtain ⟨rfl, rfl⟩ := H
  go_enter Tryz.func65, Tryz.ntmps65
  go_wp2_with (first | ((with_reducible refine gd 1 rfl ?_); refine bx_ 1 90 #[.bool a0_0, .int .u64 a0_1, .int .u64 a0_2] rfl rfl ?_; intro gb204 hg w8 BK204 hb; have GE204 := bz HB hg; replace HB := bs HB hb; clear hb hg; have hcz9 := X.k3 BK204))
  repeat (go_quiet (first | ((with_reducible refine gd 1 rfl ?_); refine bx_ 1 90 #[.bool a0_0, .int .u64 a0_1, .int .u64 a0_2] rfl rfl ?_; intro gb204 hg w8 BK204 hb; have GE204 := bz HB hg; replace HB := bs HB hb; clear hb hg; have hcz9 := X.k3 BK204)); try go_wp2_with (first | ((with_reducible refine gd 1 rfl ?_); refine bx_ 1 90 #[.bool a0_0, .int .u64 a0_1, .int .u64 a0_2] rfl rfl ?_; intro gb204 hg w8 BK204 hb; have GE204 := bz HB hg; replace HB := bs HB hb; clear hb hg; have hcz9 := X.k3 BK204)))
  go_ret2
  exact ⟨ae, bf HB⟩

end Go.Proofs.YtfhokgkpcphmlaaGreatDoor.X
