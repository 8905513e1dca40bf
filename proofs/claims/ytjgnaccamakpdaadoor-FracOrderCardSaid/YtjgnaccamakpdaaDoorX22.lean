/- Walks: each '.calls' says that the Go function comes to what its Lean function tells. Conditions: as each theorem's head says. -/
import Derived.Test.YtjgnaccamakpdaaDoorXD
import Derived.Test.YtjgnaccamakpdaaDoorX0
import Derived.Test.YtjgnaccamakpdaaDoorX7
import Derived.Test.YtjgnaccamakpdaaDoorX8
namespace Go.Proofs.YtjgnaccamakpdaaDoor.X
open Go.RowKit Go.Proofs.YtjgnaccamakpdaaDoorW.PrintWords Go.Proofs.YtjgnaccamakpdaaDoorW.PrintLast Go.Proofs.YtjgnaccamakpdaaDoorW.PrintMore
attribute [local go_sem] max2_int min2_int max_two min_two max_three min_three max_four min_four   -- for this text's walks alone
set_option linter.unusedVariables false
set_option maxHeartbeats 8000000
set_option maxRecDepth 100000
set_option linter.unusedSimpArgs false

-- NOT PRINTED: function 20 (carrefourlaw02_sum)

/-! ### frac_Mul: function 21 -/
def frac_Mul.T2 : Bool × List (List Nat × List Nat) := (true, [([], []), ([0], [0]), ([1], [1]), ([], []), ([3], [3]), ([4, 2], [4]), ([2, 5, 5], [2, 5]), ([], []), ([7], [7]), ([8, 6], [8]), ([], []), ([10], [10]), ([11, 9], [11]), ([9, 12, 12], [9, 12]), ([6, 13, 13], [6, 13]), ([14], [14]), ([14], [14]), ([15, 14, 0, 1, 2, 3, 4, 5, 6, 7, 8, 9, 10, 11, 12, 13, 14, 15, 16], [15]), ([16, 17, 0, 1, 2, 3, 4, 5, 6, 7, 8, 9, 10, 11, 12, 13, 14, 15, 16, 17], [16])])
def frac_Mul.B2 : List Nat := [0, 1, 3, 0, 8, 31, 63, 0, 128, 511, 0, 1024, 4095, 8191, 16383, 32767, 32767, 131071, 262143]
theorem frac_Mul.tab2 : rtab .any (opsOf Tryd.f21 2) = frac_Mul.T2 := by kernel_rfl
theorem frac_Mul.bits2 : waitsOk frac_Mul.T2.2 frac_Mul.B2 = true := by kernel_rfl
theorem frac_Mul.calls (k : Nat) (a0_0 : Int) (a0_1 : Int) (a1_0 : Int) (a1_1 : Int) (r1 : Int) (r2 : Int) (r3 : Int) (w : World) (h : frac_Mul.f k a0_0 a0_1 a1_0 a1_1 = some (r1, r2, r3)) (hT : TabOK w) :
    Calls Tryd.prog 21 #[.agg #[.int .i64 a0_0, .int .i64 a0_1], .agg #[.int .i64 a1_0, .int .i64 a1_1]] w fun e w' => e = .returned (.tuple #[.agg #[.int .i64 r1, .int .i64 r2], .int .i64 r3]) ∧ Below w.heap.size w w' := by
  have GT := Aside0.mk hT
  clear hT
  have hu23 := Tryd.underlying23
  have HB := Aside0.mk (Below.refl w.heap.size w)
  have H : ((frac_norm.f k a0_0 a0_1).bind fun bt676 => ((frac_norm.f k a1_0 a1_1).bind fun bt678 => ((frac_sized.f bt676.1).bind fun bt680 => ((frac_sized.f bt678.1).bind fun bt683 => ((frac_signed_times.f bt680.1 bt680.2.1 bt680.2.2 bt683.1 bt683.2.1 bt683.2.2).bind fun bt686 => ((frac_sized.f bt676.2).bind fun bt689 => ((frac_sized.f bt678.2).bind fun bt692 => ((frac_signed_times.f bt689.1 bt689.2.1 bt689.2.2 bt692.1 bt692.2.1 bt692.2.2).bind fun bt695 => ((frac_reduced.f k bt686.1 bt686.2.1 bt686.2.2 bt695.1 bt695.2.1 bt695.2.2).bind fun bt698 => (some (bt698.1, bt698.2.1, bt698.2.2))))))))))) = some (r1, r2, r3) := h
  clear h
  replace H := bi_ H; obtain ⟨⟨t676, t677⟩, A3, H⟩ := H
  (try dsimp only at H)
  replace H := bi_ H; obtain ⟨⟨t678, t679⟩, A4, H⟩ := H
  (try dsimp only at H)
  replace H := bi_ H; obtain ⟨⟨t680, t681, t682⟩, A5, H⟩ := H
  (try dsimp only at H)
  replace H := bi_ H; obtain ⟨⟨t683, t684, t685⟩, A6, H⟩ := H
  (try dsimp only at H)
  replace H := bi_ H; obtain ⟨⟨t686, t687, t688⟩, A7, H⟩ := H
  (try dsimp only at H)
  replace H := bi_ H; obtain ⟨⟨t689, t690, t691⟩, A8, H⟩ := H
  (try dsimp only at H)
  replace H := bi_ H; obtain ⟨⟨t692, t693, t694⟩, A9, H⟩ := H
  (try dsimp only at H)
  replace H := bi_ H; obtain ⟨⟨t695, t696, t697⟩, A10, H⟩ := H
  (try dsimp only at H)
  replace H := bi_ H; obtain ⟨⟨t698, t699, t700⟩, A11, H⟩ := H
  (try dsimp only at H)
  simp only [Option.some.injEq, Prod.mk.injEq] at H
  obtain ⟨rfl, rfl, rfl⟩ := H
  go_enter Tryd.func21, Tryd.ntmps21
  try go_wp2_with (first | ((with_reducible refine gd 2 rfl ?_); refine bx_ 2 23 #[.int .i64 a0_0, .int .i64 a0_1] rfl rfl ?_; intro gb673 hg w12 BK673 hb; have GE673 := bz HB hg; replace HB := bs HB hb; clear hb hg) | ((with_reducible refine gd 3 rfl ?_); refine bx_ 3 23 #[.int .i64 a1_0, .int .i64 a1_1] rfl rfl ?_; intro gb674 hg w13 BK674 hb; have GE674 := bz HB hg; have ⟨NB673_674, NB674_673⟩ := nb BK673 hg; replace BK673 := bb BK673 hb; replace HB := bs HB hb; clear hb hg) | ((with_reducible refine gd 4 rfl ?_); refine bx_ 4 23 #[.int .i64 0, .int .i64 0] rfl rfl ?_; intro gb675 hg w14 BK675 hb; have GE675 := bz HB hg; have ⟨NB673_675, NB675_673⟩ := nb BK673 hg; have ⟨NB674_675, NB675_674⟩ := nb BK674 hg; replace BK673 := bb BK673 hb; replace BK674 := bb BK674 hb; replace HB := bs HB hb; clear hb hg))
  replace BK673 := Aside0.mk (blk_drew BK673.out)
  replace BK674 := Aside0.mk (blk_drew BK674.out)
  replace BK675 := Aside0.mk (blk_drew BK675.out)
  replace HB := Aside0.mk (below_drew1 HB.out)
  refine start_ (n := 6) (S := fun w' => c_ w' gb673 0 (.int .i64 a0_0) ∧ c_ w' gb673 1 (.int .i64 a0_1) ∧ c_ w' gb674 0 (.int .i64 a1_0) ∧ c_ w' gb674 1 (.int .i64 a1_1)) (ds := [4, 5]) (m_ 6 0) (by kernel_rfl) rfl rfl ⟨ct BK673 0, ct BK673 1, ct BK674 0, ct BK674 1⟩ (fun hHeld => ?_)
  generalize w14.drew = w15 at BK673 BK674 BK675 HB hHeld ⊢
  refine tk_ 0 (some 6) (m_ 6 1) rfl rfl (by kernel_rfl) hHeld ?_
  refine tk_ 2 (some 8) (m_ 6 5) rfl rfl (by kernel_rfl) hHeld ?_
  refine o1_ 1 (some 7) (m_ 6 7) rfl rfl (by kernel_rfl) (fun K hK => ?_)
  refine gs_ rfl Tryd.func56 (frac_norm.calls _ _ _ _ _ _ A3.out (tt GT)) ag ?_
  intro w16 hb
  replace BK673 := bb BK673 hb
  replace BK674 := bb BK674 hb
  replace BK675 := bb BK675 hb
  replace HB := bs HB hb
  (try clear hb)
  refine hK.out _ _ ⟨ct BK673 0, ct BK673 1, ct BK674 0, ct BK674 1⟩ (fun hHeld => ?_)
  clear hK K
  refine nr_ (some 7) ?_
  refine o1_ 3 (some 9) (m_ 6 15) rfl rfl (by kernel_rfl) (fun K hK => ?_)
  refine gs_ rfl Tryd.func56 (frac_norm.calls _ _ _ _ _ _ A4.out (tt GT)) ag ?_
  intro w17 hb
  replace BK673 := bb BK673 hb
  replace BK674 := bb BK674 hb
  replace BK675 := bb BK675 hb
  replace HB := bs HB hb
  (try clear hb)
  refine hK.out _ _ ⟨ct BK673 0, ct BK673 1, ct BK674 0, ct BK674 1⟩ (fun hHeld => ?_)
  clear hK K
  refine nr_ (some 9) ?_
  refine last_ (i := 4) (N := none) (m_ 6 31) rfl rfl (by kernel_rfl) (by decide) (fun K hK => ?_)
  have hs18 : c_ w17 gb673 0 (.int .i64 a0_0) := ct BK673 0
  have hfs18 := blk_frozen BK673.out 0
  have hns18_1 := NB674_673.out
  have hns18_2 := NB675_673.out
  have hms18_1 := NB673_674.out
  have hms18_2 := NB673_675.out
  have hs19 : c_ w17 gb673 1 (.int .i64 a0_1) := ct BK673 1
  have hfs19 := blk_frozen BK673.out 1
  have hns19_1 := NB674_673.out
  have hns19_2 := NB675_673.out
  have hms19_1 := NB673_674.out
  have hms19_2 := NB673_675.out
  refine skip_ (w1 := ?_) (by rfl) rfl ?_ ?_
  rotate_left
  · go_simp
    rfl
  refine hK.out _ _ ?_
  clear hK K
  refine last_ (i := 5) (N := none) (m_ 6 63) rfl rfl (by kernel_rfl) (by decide) (fun K hK => ?_)
  have hs20 : c_ w17 gb674 0 (.int .i64 a1_0) := ct BK674 0
  have hfs20 := blk_frozen BK674.out 0
  have hns20_0 := NB673_674.out
  have hns20_2 := NB675_674.out
  have hms20_0 := NB674_673.out
  have hms20_2 := NB674_675.out
  have hs21 : c_ w17 gb674 1 (.int .i64 a1_1) := ct BK674 1
  have hfs21 := blk_frozen BK674.out 1
  have hns21_0 := NB673_674.out
  have hns21_2 := NB675_674.out
  have hms21_0 := NB674_673.out
  have hms21_2 := NB674_675.out
  refine skip_ (w1 := ?_) (by rfl) rfl ?_ ?_
  rotate_left
  · go_simp
    rfl
  refine hK.out _ _ ?_
  clear hK K
  refine done_ (by kernel_rfl) ?_
  try go_wp2
  have n0_ : Aside0 (((((w17.setCell ⟨gb673, 0, none⟩ (.int .i64 t676)).setCell ⟨gb673, 1, none⟩ (.int .i64 t677)).setCell ⟨gb674, 0, none⟩ (.int .i64 t678)).setCell ⟨gb674, 1, none⟩ (.int .i64 t679)).heap[gb673]? = some (.cells #[.int .i64 t676, .int .i64 t677] 23 (0, 0))) := bq_ BK673
  have n1_ : Aside0 (((((w17.setCell ⟨gb673, 0, none⟩ (.int .i64 t676)).setCell ⟨gb673, 1, none⟩ (.int .i64 t677)).setCell ⟨gb674, 0, none⟩ (.int .i64 t678)).setCell ⟨gb674, 1, none⟩ (.int .i64 t679)).heap[gb674]? = some (.cells #[.int .i64 t678, .int .i64 t679] 23 (0, 0))) := bq_ BK674
  have n2_ : Aside0 (((((w17.setCell ⟨gb673, 0, none⟩ (.int .i64 t676)).setCell ⟨gb673, 1, none⟩ (.int .i64 t677)).setCell ⟨gb674, 0, none⟩ (.int .i64 t678)).setCell ⟨gb674, 1, none⟩ (.int .i64 t679)).heap[gb675]? = some (.cells #[.int .i64 0, .int .i64 0] 23 (0, 0))) := bu_ BK675
  have n3_ : Aside0 (Below w.heap.size w ((((w17.setCell ⟨gb673, 0, none⟩ (.int .i64 t676)).setCell ⟨gb673, 1, none⟩ (.int .i64 t677)).setCell ⟨gb674, 0, none⟩ (.int .i64 t678)).setCell ⟨gb674, 1, none⟩ (.int .i64 t679))) := ⟨bf HB⟩
  (try clear BK673); (try clear BK674); (try clear BK675); (try clear HB)
  generalize ((((w17.setCell ⟨gb673, 0, none⟩ (.int .i64 t676)).setCell ⟨gb673, 1, none⟩ (.int .i64 t677)).setCell ⟨gb674, 0, none⟩ (.int .i64 t678)).setCell ⟨gb674, 1, none⟩ (.int .i64 t679)) = w22 at n0_ n1_ n2_ n3_ ⊢
  have BK673 := n0_
  have BK674 := n1_
  have BK675 := n2_
  have HB := n3_
  clear n0_ n1_ n2_ n3_
  replace BK673 := Aside0.mk (blk_drew BK673.out)
  replace BK674 := Aside0.mk (blk_drew BK674.out)
  replace BK675 := Aside0.mk (blk_drew BK675.out)
  replace HB := Aside0.mk (below_drew1 HB.out)
  refine start_ (n := 19) (S := fun w' => c_ w' gb673 0 (.int .i64 t676) ∧ c_ w' gb673 1 (.int .i64 t677) ∧ c_ w' gb674 0 (.int .i64 t678) ∧ c_ w' gb674 1 (.int .i64 t679)) (ds := []) (m_ 19 0) (by kernel_rfl) rfl rfl ⟨ct BK673 0, ct BK673 1, ct BK674 0, ct BK674 1⟩ (fun hHeld => ?_); refine with_tabW frac_Mul.tab2 frac_Mul.bits2 (fun HT_ HW_ => ?_)
  generalize w22.drew = w23 at BK673 BK674 BK675 HB hHeld ⊢
  refine pu_ 0 (some 10) (m_ 19 1) rfl rfl (ao HT_) ?_
  refine pu_ 3 (some 13) (m_ 19 9) rfl rfl (ao HT_) ?_
  refine pu_ 7 (some 17) (m_ 19 137) rfl rfl (ao HT_) ?_
  refine pu_ 10 (some 20) (m_ 19 1161) rfl rfl (ao HT_) ?_
  refine tk_ 1 (some 11) (m_ 19 1163) rfl rfl (tw HT_ HW_) hHeld ?_
  refine tk_ 4 (some 14) (m_ 19 1179) rfl rfl (tw HT_ HW_) hHeld ?_
  refine tk_ 8 (some 18) (m_ 19 1435) rfl rfl (tw HT_ HW_) hHeld ?_
  refine tk_ 11 (some 21) (m_ 19 3483) rfl rfl (tw HT_ HW_) hHeld ?_
  refine o1_ 2 (some 12) (m_ 19 3487) rfl rfl (oo HT_) (fun K hK => ?_)
  refine gs_ rfl Tryd.func52 (frac_sized.calls _ _ _ _ _ A5.out) ag ?_
  intro w24 hb
  replace BK673 := bb BK673 hb
  replace BK674 := bb BK674 hb
  replace BK675 := bb BK675 hb
  replace HB := bs HB hb
  (try clear hb)
  refine hK.out _ _ ⟨ct BK673 0, ct BK673 1, ct BK674 0, ct BK674 1⟩ (fun hHeld => ?_)
  clear hK K
  refine nr_ (some 12) ?_
  refine o1_ 5 (some 15) (m_ 19 3519) rfl rfl (oo HT_) (fun K hK => ?_)
  refine gs_ rfl Tryd.func52 (frac_sized.calls _ _ _ _ _ A6.out) ag ?_
  intro w25 hb
  replace BK673 := bb BK673 hb
  replace BK674 := bb BK674 hb
  replace BK675 := bb BK675 hb
  replace HB := bs HB hb
  (try clear hb)
  refine hK.out _ _ ⟨ct BK673 0, ct BK673 1, ct BK674 0, ct BK674 1⟩ (fun hHeld => ?_)
  clear hK K
  refine nr_ (some 15) ?_
  refine o1_ 6 (some 16) (m_ 19 3583) rfl rfl (oo HT_) (fun K hK => ?_)
  refine gs_ rfl Tryd.func57 (frac_signed_times.calls _ _ _ _ _ _ _ _ _ _ A7.out) ag ?_
  intro w26 hb
  replace BK673 := bb BK673 hb
  replace BK674 := bb BK674 hb
  replace BK675 := bb BK675 hb
  replace HB := bs HB hb
  (try clear hb)
  refine hK.out _ _ ⟨ct BK673 0, ct BK673 1, ct BK674 0, ct BK674 1⟩ (fun hHeld => ?_)
  clear hK K
  refine nr_ (some 16) ?_
  refine o1_ 9 (some 19) (m_ 19 4095) rfl rfl (oo HT_) (fun K hK => ?_)
  refine gs_ rfl Tryd.func52 (frac_sized.calls _ _ _ _ _ A8.out) ag ?_
  intro w27 hb
  replace BK673 := bb BK673 hb
  replace BK674 := bb BK674 hb
  replace BK675 := bb BK675 hb
  replace HB := bs HB hb
  (try clear hb)
  refine hK.out _ _ ⟨ct BK673 0, ct BK673 1, ct BK674 0, ct BK674 1⟩ (fun hHeld => ?_)
  clear hK K
  refine nr_ (some 19) ?_
  refine o1_ 12 (some 22) (m_ 19 8191) rfl rfl (oo HT_) (fun K hK => ?_)
  refine gs_ rfl Tryd.func52 (frac_sized.calls _ _ _ _ _ A9.out) ag ?_
  intro w28 hb
  replace BK673 := bb BK673 hb
  replace BK674 := bb BK674 hb
  replace BK675 := bb BK675 hb
  replace HB := bs HB hb
  (try clear hb)
  refine hK.out _ _ ⟨ct BK673 0, ct BK673 1, ct BK674 0, ct BK674 1⟩ (fun hHeld => ?_)
  clear hK K
  refine nr_ (some 22) ?_
  refine o1_ 13 (some 23) (m_ 19 16383) rfl rfl (oo HT_) (fun K hK => ?_)
  refine gs_ rfl Tryd.func57 (frac_signed_times.calls _ _ _ _ _ _ _ _ _ _ A10.out) ag ?_
  intro w29 hb
  replace BK673 := bb BK673 hb
  replace BK674 := bb BK674 hb
  replace BK675 := bb BK675 hb
  replace HB := bs HB hb
  (try clear hb)
  refine hK.out _ _ ⟨ct BK673 0, ct BK673 1, ct BK674 0, ct BK674 1⟩ (fun hHeld => ?_)
  clear hK K
  refine nr_ (some 23) ?_
  refine o1_ 14 (some 24) (m_ 19 32767) rfl rfl (oo HT_) (fun K hK => ?_)
  refine gs_ rfl Tryd.func51 (frac_reduced.calls _ _ _ _ _ _ _ _ _ _ _ A11.out (tt GT)) ag ?_
  intro w30 hb
  replace BK673 := bb BK673 hb
  replace BK674 := bb BK674 hb
  replace BK675 := bb BK675 hb
  replace HB := bs HB hb
  (try clear hb)
  refine hK.out _ _ ⟨ct BK673 0, ct BK673 1, ct BK674 0, ct BK674 1⟩ (fun hHeld => ?_)
  clear hK K
  refine nr_ (some 24) ?_
  refine pu_ 15 (some 25) (m_ 19 65535) rfl rfl (ao HT_) ?_
  refine pu_ 16 (some 26) (m_ 19 131071) rfl rfl (ao HT_) ?_
  refine o1_ 17 (none) (m_ 19 262143) rfl rfl (oo HT_) (fun K hK => ?_)
  have hs31 : c_ w30 gb675 0 (.int .i64 0) := ct BK675 0
  have hfs31 := blk_frozen BK675.out 0
  have hns31_0 := NB673_675.out
  have hns31_1 := NB674_675.out
  have hms31_0 := NB675_673.out
  have hms31_1 := NB675_674.out
  have hs32 : c_ w30 gb675 1 (.int .i64 0) := ct BK675 1
  have hfs32 := blk_frozen BK675.out 1
  have hns32_0 := NB673_675.out
  have hns32_1 := NB674_675.out
  have hms32_0 := NB675_673.out
  have hms32_1 := NB675_674.out
  refine skip_ (w1 := ?_) (by rfl) rfl ?_ ?_
  rotate_left
  · go_simp
    rfl
  refine hK.out _ _ ⟨((cell_far (p := ⟨gb675, _, none⟩) NB673_675.out _).trans (((cell_far (p := ⟨gb675, _, none⟩) NB673_675.out _).trans (hHeld.1)))), ((cell_far (p := ⟨gb675, _, none⟩) NB673_675.out _).trans (((cell_far (p := ⟨gb675, _, none⟩) NB673_675.out _).trans (hHeld.2.1)))), ((cell_far (p := ⟨gb675, _, none⟩) NB674_675.out _).trans (((cell_far (p := ⟨gb675, _, none⟩) NB674_675.out _).trans (hHeld.2.2.1)))), ((cell_far (p := ⟨gb675, _, none⟩) NB674_675.out _).trans (((cell_far (p := ⟨gb675, _, none⟩) NB674_675.out _).trans (hHeld.2.2.2))))⟩ (fun hHeld => ?_)
  clear hK K
  refine pu_ 18 (some 5) (m_ 19 524287) rfl rfl (ao HT_) ?_
  refine done_ (done_of HT_.out (by kernel_rfl)) ?_
  try go_wp2
  refine bodyPost_ret (results_ct rfl _ _ gb675 23 #[.int .i64 t698, .int .i64 t699] (0, 0) _ rfl (br_ BK675) Tryd.underlying23 rfl (by kernel_rfl)) rfl ?_
  exact ⟨ae, bf HB⟩

end Go.Proofs.YtjgnaccamakpdaaDoor.X
