/- Walks: each '.calls' says that the Go function comes to what its Lean function tells. Conditions: as each theorem's head says. -/
import Derived.Test.YtcdaedhphdmnoaaDoorXD
import Derived.Test.YtcdaedhphdmnoaaDoorX0
import Derived.Test.YtcdaedhphdmnoaaDoorX6
import Derived.Test.YtcdaedhphdmnoaaDoorX7
namespace Go.Proofs.YtcdaedhphdmnoaaDoor.X
open Go.RowKit Go.Proofs.YtcdaedhphdmnoaaDoorW.PrintWords Go.Proofs.YtcdaedhphdmnoaaDoorW.PrintLast Go.Proofs.YtcdaedhphdmnoaaDoorW.PrintMore
attribute [local go_sem] max2_int min2_int max_two min_two max_three min_three max_four min_four   -- for this text's walks alone
set_option linter.unusedVariables false
set_option maxHeartbeats 8000000
set_option maxRecDepth 100000
set_option linter.unusedSimpArgs false

/-! ### frac_Mul: function 39 -/
def frac_Mul.T2 : Bool × List (List Nat × List Nat) := (true, [([], []), ([0], [0]), ([1], [1]), ([], []), ([3], [3]), ([4, 2], [4]), ([2, 5, 5], [2, 5]), ([], []), ([7], [7]), ([8, 6], [8]), ([], []), ([10], [10]), ([11, 9], [11]), ([9, 12, 12], [9, 12]), ([6, 13, 13], [6, 13]), ([14], [14]), ([14], [14]), ([15, 14, 0, 1, 2, 3, 4, 5, 6, 7, 8, 9, 10, 11, 12, 13, 14, 15, 16], [15]), ([16, 17, 0, 1, 2, 3, 4, 5, 6, 7, 8, 9, 10, 11, 12, 13, 14, 15, 16, 17], [16])])
def frac_Mul.B2 : List Nat := [0, 1, 3, 0, 8, 31, 63, 0, 128, 511, 0, 1024, 4095, 8191, 16383, 32767, 32767, 131071, 262143]
theorem frac_Mul.tab2 : rtab .any (opsOf Tryd.f39 2) = frac_Mul.T2 := by kernel_rfl
theorem frac_Mul.bits2 : waitsOk frac_Mul.T2.2 frac_Mul.B2 = true := by kernel_rfl
theorem frac_Mul.calls (k : Nat) (a0_0 : Int) (a0_1 : Int) (a1_0 : Int) (a1_1 : Int) (r1 : Int) (r2 : Int) (r3 : Int) (w : World) (h : frac_Mul.f k a0_0 a0_1 a1_0 a1_1 = some (r1, r2, r3)) (hT : TabOK w) :
    Calls Tryd.prog 39 #[.agg #[.int .i64 a0_0, .int .i64 a0_1], .agg #[.int .i64 a1_0, .int .i64 a1_1]] w fun e w' => e = .returned (.tuple #[.agg #[.int .i64 r1, .int .i64 r2], .int .i64 r3]) ∧ Below w.heap.size w w' := by
  have GT := Aside0.mk hT
  clear hT
  have hu23 := Tryd.underlying23
  have HB := Aside0.mk (Below.refl w.heap.size w)
  have H : ((frac_norm.f k a0_0 a0_1).bind fun bt216 => ((frac_norm.f k a1_0 a1_1).bind fun bt218 => ((frac_sized.f bt216.1).bind fun bt220 => ((frac_sized.f bt218.1).bind fun bt223 => ((frac_signed_times.f bt220.1 bt220.2.1 bt220.2.2 bt223.1 bt223.2.1 bt223.2.2).bind fun bt226 => ((frac_sized.f bt216.2).bind fun bt229 => ((frac_sized.f bt218.2).bind fun bt232 => ((frac_signed_times.f bt229.1 bt229.2.1 bt229.2.2 bt232.1 bt232.2.1 bt232.2.2).bind fun bt235 => ((frac_reduced.f k bt226.1 bt226.2.1 bt226.2.2 bt235.1 bt235.2.1 bt235.2.2).bind fun bt238 => (some (bt238.1, bt238.2.1, bt238.2.2))))))))))) = some (r1, r2, r3) := h
  clear h
  replace H := bi_ H; obtain ⟨⟨t216, t217⟩, A3, H⟩ := H
  (try dsimp only at H)
  replace H := bi_ H; obtain ⟨⟨t218, t219⟩, A4, H⟩ := H
  (try dsimp only at H)
  replace H := bi_ H; obtain ⟨⟨t220, t221, t222⟩, A5, H⟩ := H
  (try dsimp only at H)
  replace H := bi_ H; obtain ⟨⟨t223, t224, t225⟩, A6, H⟩ := H
  (try dsimp only at H)
  replace H := bi_ H; obtain ⟨⟨t226, t227, t228⟩, A7, H⟩ := H
  (try dsimp only at H)
  replace H := bi_ H; obtain ⟨⟨t229, t230, t231⟩, A8, H⟩ := H
  (try dsimp only at H)
  replace H := bi_ H; obtain ⟨⟨t232, t233, t234⟩, A9, H⟩ := H
  (try dsimp only at H)
  replace H := bi_ H; obtain ⟨⟨t235, t236, t237⟩, A10, H⟩ := H
  (try dsimp only at H)
  replace H := bi_ H; obtain ⟨⟨t238, t239, t240⟩, A11, H⟩ := H
  (try dsimp only at H)
  simp only [Option.some.injEq, Prod.mk.injEq] at H
  obtain ⟨rfl, rfl, rfl⟩ := H
  go_enter Tryd.func39, Tryd.ntmps39
  try go_wp2_with (first | ((with_reducible refine gd 2 rfl ?_); refine bx_ 2 23 #[.int .i64 a0_0, .int .i64 a0_1] rfl rfl ?_; intro gb213 hg w12 BK213 hb; have GE213 := bz HB hg; replace HB := bs HB hb; clear hb hg) | ((with_reducible refine gd 3 rfl ?_); refine bx_ 3 23 #[.int .i64 a1_0, .int .i64 a1_1] rfl rfl ?_; intro gb214 hg w13 BK214 hb; have GE214 := bz HB hg; have ⟨NB213_214, NB214_213⟩ := nb BK213 hg; replace BK213 := bb BK213 hb; replace HB := bs HB hb; clear hb hg) | ((with_reducible refine gd 4 rfl ?_); refine bx_ 4 23 #[.int .i64 0, .int .i64 0] rfl rfl ?_; intro gb215 hg w14 BK215 hb; have GE215 := bz HB hg; have ⟨NB213_215, NB215_213⟩ := nb BK213 hg; have ⟨NB214_215, NB215_214⟩ := nb BK214 hg; replace BK213 := bb BK213 hb; replace BK214 := bb BK214 hb; replace HB := bs HB hb; clear hb hg))
  replace BK213 := Aside0.mk (blk_drew BK213.out)
  replace BK214 := Aside0.mk (blk_drew BK214.out)
  replace BK215 := Aside0.mk (blk_drew BK215.out)
  replace HB := Aside0.mk (below_drew1 HB.out)
  refine start_ (n := 6) (S := fun w' => c_ w' gb213 0 (.int .i64 a0_0) ∧ c_ w' gb213 1 (.int .i64 a0_1) ∧ c_ w' gb214 0 (.int .i64 a1_0) ∧ c_ w' gb214 1 (.int .i64 a1_1)) (ds := [4, 5]) (m_ 6 0) (by kernel_rfl) rfl rfl ⟨ct BK213 0, ct BK213 1, ct BK214 0, ct BK214 1⟩ (fun hHeld => ?_)
  generalize w14.drew = w15 at BK213 BK214 BK215 HB hHeld ⊢
  refine tk_ 0 (some 6) (m_ 6 1) rfl rfl (by kernel_rfl) hHeld ?_
  refine tk_ 2 (some 8) (m_ 6 5) rfl rfl (by kernel_rfl) hHeld ?_
  refine o1_ 1 (some 7) (m_ 6 7) rfl rfl (by kernel_rfl) (fun K hK => ?_)
  refine gs_ rfl Tryd.func41 (frac_norm.calls _ _ _ _ _ _ A3.out (tt GT)) ag ?_
  intro w16 hb
  replace BK213 := bb BK213 hb
  replace BK214 := bb BK214 hb
  replace BK215 := bb BK215 hb
  replace HB := bs HB hb
  (try clear hb)
  refine hK.out _ _ ⟨ct BK213 0, ct BK213 1, ct BK214 0, ct BK214 1⟩ (fun hHeld => ?_)
  clear hK K
  refine nr_ (some 7) ?_
  refine o1_ 3 (some 9) (m_ 6 15) rfl rfl (by kernel_rfl) (fun K hK => ?_)
  refine gs_ rfl Tryd.func41 (frac_norm.calls _ _ _ _ _ _ A4.out (tt GT)) ag ?_
  intro w17 hb
  replace BK213 := bb BK213 hb
  replace BK214 := bb BK214 hb
  replace BK215 := bb BK215 hb
  replace HB := bs HB hb
  (try clear hb)
  refine hK.out _ _ ⟨ct BK213 0, ct BK213 1, ct BK214 0, ct BK214 1⟩ (fun hHeld => ?_)
  clear hK K
  refine nr_ (some 9) ?_
  refine last_ (i := 4) (N := none) (m_ 6 31) rfl rfl (by kernel_rfl) (by decide) (fun K hK => ?_)
  have hs18 : c_ w17 gb213 0 (.int .i64 a0_0) := ct BK213 0
  have hfs18 := blk_frozen BK213.out 0
  have hns18_1 := NB214_213.out
  have hns18_2 := NB215_213.out
  have hms18_1 := NB213_214.out
  have hms18_2 := NB213_215.out
  have hs19 : c_ w17 gb213 1 (.int .i64 a0_1) := ct BK213 1
  have hfs19 := blk_frozen BK213.out 1
  have hns19_1 := NB214_213.out
  have hns19_2 := NB215_213.out
  have hms19_1 := NB213_214.out
  have hms19_2 := NB213_215.out
  refine skip_ (w1 := ?_) (by rfl) rfl ?_ ?_
  rotate_left
  · go_simp
    rfl
  refine hK.out _ _ ?_
  clear hK K
  refine last_ (i := 5) (N := none) (m_ 6 63) rfl rfl (by kernel_rfl) (by decide) (fun K hK => ?_)
  have hs20 : c_ w17 gb214 0 (.int .i64 a1_0) := ct BK214 0
  have hfs20 := blk_frozen BK214.out 0
  have hns20_0 := NB213_214.out
  have hns20_2 := NB215_214.out
  have hms20_0 := NB214_213.out
  have hms20_2 := NB214_215.out
  have hs21 : c_ w17 gb214 1 (.int .i64 a1_1) := ct BK214 1
  have hfs21 := blk_frozen BK214.out 1
  have hns21_0 := NB213_214.out
  have hns21_2 := NB215_214.out
  have hms21_0 := NB214_213.out
  have hms21_2 := NB214_215.out
  refine skip_ (w1 := ?_) (by rfl) rfl ?_ ?_
  rotate_left
  · go_simp
    rfl
  refine hK.out _ _ ?_
  clear hK K
  refine done_ (by kernel_rfl) ?_
  try go_wp2
  have n0_ : Aside0 (((((w17.setCell ⟨gb213, 0, none⟩ (.int .i64 t216)).setCell ⟨gb213, 1, none⟩ (.int .i64 t217)).setCell ⟨gb214, 0, none⟩ (.int .i64 t218)).setCell ⟨gb214, 1, none⟩ (.int .i64 t219)).heap[gb213]? = some (.cells #[.int .i64 t216, .int .i64 t217] 23 (0, 0))) := bq_ BK213
  have n1_ : Aside0 (((((w17.setCell ⟨gb213, 0, none⟩ (.int .i64 t216)).setCell ⟨gb213, 1, none⟩ (.int .i64 t217)).setCell ⟨gb214, 0, none⟩ (.int .i64 t218)).setCell ⟨gb214, 1, none⟩ (.int .i64 t219)).heap[gb214]? = some (.cells #[.int .i64 t218, .int .i64 t219] 23 (0, 0))) := bq_ BK214
  have n2_ : Aside0 (((((w17.setCell ⟨gb213, 0, none⟩ (.int .i64 t216)).setCell ⟨gb213, 1, none⟩ (.int .i64 t217)).setCell ⟨gb214, 0, none⟩ (.int .i64 t218)).setCell ⟨gb214, 1, none⟩ (.int .i64 t219)).heap[gb215]? = some (.cells #[.int .i64 0, .int .i64 0] 23 (0, 0))) := bu_ BK215
  have n3_ : Aside0 (Below w.heap.size w ((((w17.setCell ⟨gb213, 0, none⟩ (.int .i64 t216)).setCell ⟨gb213, 1, none⟩ (.int .i64 t217)).setCell ⟨gb214, 0, none⟩ (.int .i64 t218)).setCell ⟨gb214, 1, none⟩ (.int .i64 t219))) := ⟨bf HB⟩
  (try clear BK213); (try clear BK214); (try clear BK215); (try clear HB)
  generalize ((((w17.setCell ⟨gb213, 0, none⟩ (.int .i64 t216)).setCell ⟨gb213, 1, none⟩ (.int .i64 t217)).setCell ⟨gb214, 0, none⟩ (.int .i64 t218)).setCell ⟨gb214, 1, none⟩ (.int .i64 t219)) = w22 at n0_ n1_ n2_ n3_ ⊢
  have BK213 := n0_
  have BK214 := n1_
  have BK215 := n2_
  have HB := n3_
  clear n0_ n1_ n2_ n3_
  replace BK213 := Aside0.mk (blk_drew BK213.out)
  replace BK214 := Aside0.mk (blk_drew BK214.out)
  replace BK215 := Aside0.mk (blk_drew BK215.out)
  replace HB := Aside0.mk (below_drew1 HB.out)
  refine start_ (n := 19) (S := fun w' => c_ w' gb213 0 (.int .i64 t216) ∧ c_ w' gb213 1 (.int .i64 t217) ∧ c_ w' gb214 0 (.int .i64 t218) ∧ c_ w' gb214 1 (.int .i64 t219)) (ds := []) (m_ 19 0) (by kernel_rfl) rfl rfl ⟨ct BK213 0, ct BK213 1, ct BK214 0, ct BK214 1⟩ (fun hHeld => ?_); refine with_tabW frac_Mul.tab2 frac_Mul.bits2 (fun HT_ HW_ => ?_)
  generalize w22.drew = w23 at BK213 BK214 BK215 HB hHeld ⊢
  refine pu_ 0 (some 10) (m_ 19 1) rfl rfl (ao HT_) ?_
  refine pu_ 3 (some 13) (m_ 19 9) rfl rfl (ao HT_) ?_
  refine pu_ 7 (some 17) (m_ 19 137) rfl rfl (ao HT_) ?_
  refine pu_ 10 (some 20) (m_ 19 1161) rfl rfl (ao HT_) ?_
  refine tk_ 1 (some 11) (m_ 19 1163) rfl rfl (tw HT_ HW_) hHeld ?_
  refine tk_ 4 (some 14) (m_ 19 1179) rfl rfl (tw HT_ HW_) hHeld ?_
  refine tk_ 8 (some 18) (m_ 19 1435) rfl rfl (tw HT_ HW_) hHeld ?_
  refine tk_ 11 (some 21) (m_ 19 3483) rfl rfl (tw HT_ HW_) hHeld ?_
  refine o1_ 2 (some 12) (m_ 19 3487) rfl rfl (oo HT_) (fun K hK => ?_)
  refine gs_ rfl Tryd.func43 (frac_sized.calls _ _ _ _ _ A5.out) ag ?_
  intro w24 hb
  replace BK213 := bb BK213 hb
  replace BK214 := bb BK214 hb
  replace BK215 := bb BK215 hb
  replace HB := bs HB hb
  (try clear hb)
  refine hK.out _ _ ⟨ct BK213 0, ct BK213 1, ct BK214 0, ct BK214 1⟩ (fun hHeld => ?_)
  clear hK K
  refine nr_ (some 12) ?_
  refine o1_ 5 (some 15) (m_ 19 3519) rfl rfl (oo HT_) (fun K hK => ?_)
  refine gs_ rfl Tryd.func43 (frac_sized.calls _ _ _ _ _ A6.out) ag ?_
  intro w25 hb
  replace BK213 := bb BK213 hb
  replace BK214 := bb BK214 hb
  replace BK215 := bb BK215 hb
  replace HB := bs HB hb
  (try clear hb)
  refine hK.out _ _ ⟨ct BK213 0, ct BK213 1, ct BK214 0, ct BK214 1⟩ (fun hHeld => ?_)
  clear hK K
  refine nr_ (some 15) ?_
  refine o1_ 6 (some 16) (m_ 19 3583) rfl rfl (oo HT_) (fun K hK => ?_)
  refine gs_ rfl Tryd.func44 (frac_signed_times.calls _ _ _ _ _ _ _ _ _ _ A7.out) ag ?_
  intro w26 hb
  replace BK213 := bb BK213 hb
  replace BK214 := bb BK214 hb
  replace BK215 := bb BK215 hb
  replace HB := bs HB hb
  (try clear hb)
  refine hK.out _ _ ⟨ct BK213 0, ct BK213 1, ct BK214 0, ct BK214 1⟩ (fun hHeld => ?_)
  clear hK K
  refine nr_ (some 16) ?_
  refine o1_ 9 (some 19) (m_ 19 4095) rfl rfl (oo HT_) (fun K hK => ?_)
  refine gs_ rfl Tryd.func43 (frac_sized.calls _ _ _ _ _ A8.out) ag ?_
  intro w27 hb
  replace BK213 := bb BK213 hb
  replace BK214 := bb BK214 hb
  replace BK215 := bb BK215 hb
  replace HB := bs HB hb
  (try clear hb)
  refine hK.out _ _ ⟨ct BK213 0, ct BK213 1, ct BK214 0, ct BK214 1⟩ (fun hHeld => ?_)
  clear hK K
  refine nr_ (some 19) ?_
  refine o1_ 12 (some 22) (m_ 19 8191) rfl rfl (oo HT_) (fun K hK => ?_)
  refine gs_ rfl Tryd.func43 (frac_sized.calls _ _ _ _ _ A9.out) ag ?_
  intro w28 hb
  replace BK213 := bb BK213 hb
  replace BK214 := bb BK214 hb
  replace BK215 := bb BK215 hb
  replace HB := bs HB hb
  (try clear hb)
  refine hK.out _ _ ⟨ct BK213 0, ct BK213 1, ct BK214 0, ct BK214 1⟩ (fun hHeld => ?_)
  clear hK K
  refine nr_ (some 22) ?_
  refine o1_ 13 (some 23) (m_ 19 16383) rfl rfl (oo HT_) (fun K hK => ?_)
  refine gs_ rfl Tryd.func44 (frac_signed_times.calls _ _ _ _ _ _ _ _ _ _ A10.out) ag ?_
  intro w29 hb
  replace BK213 := bb BK213 hb
  replace BK214 := bb BK214 hb
  replace BK215 := bb BK215 hb
  replace HB := bs HB hb
  (try clear hb)
  refine hK.out _ _ ⟨ct BK213 0, ct BK213 1, ct BK214 0, ct BK214 1⟩ (fun hHeld => ?_)
  clear hK K
  refine nr_ (some 23) ?_
  refine o1_ 14 (some 24) (m_ 19 32767) rfl rfl (oo HT_) (fun K hK => ?_)
  refine gs_ rfl Tryd.func42 (frac_reduced.calls _ _ _ _ _ _ _ _ _ _ _ A11.out (tt GT)) ag ?_
  intro w30 hb
  replace BK213 := bb BK213 hb
  replace BK214 := bb BK214 hb
  replace BK215 := bb BK215 hb
  replace HB := bs HB hb
  (try clear hb)
  refine hK.out _ _ ⟨ct BK213 0, ct BK213 1, ct BK214 0, ct BK214 1⟩ (fun hHeld => ?_)
  clear hK K
  refine nr_ (some 24) ?_
  refine pu_ 15 (some 25) (m_ 19 65535) rfl rfl (ao HT_) ?_
  refine pu_ 16 (some 26) (m_ 19 131071) rfl rfl (ao HT_) ?_
  refine o1_ 17 (none) (m_ 19 262143) rfl rfl (oo HT_) (fun K hK => ?_)
  have hs31 : c_ w30 gb215 0 (.int .i64 0) := ct BK215 0
  have hfs31 := blk_frozen BK215.out 0
  have hns31_0 := NB213_215.out
  have hns31_1 := NB214_215.out
  have hms31_0 := NB215_213.out
  have hms31_1 := NB215_214.out
  have hs32 : c_ w30 gb215 1 (.int .i64 0) := ct BK215 1
  have hfs32 := blk_frozen BK215.out 1
  have hns32_0 := NB213_215.out
  have hns32_1 := NB214_215.out
  have hms32_0 := NB215_213.out
  have hms32_1 := NB215_214.out
  refine skip_ (w1 := ?_) (by rfl) rfl ?_ ?_
  rotate_left
  · go_simp
    rfl
  refine hK.out _ _ ⟨((cell_far (p := ⟨gb215, _, none⟩) NB213_215.out _).trans (((cell_far (p := ⟨gb215, _, none⟩) NB213_215.out _).trans (hHeld.1)))), ((cell_far (p := ⟨gb215, _, none⟩) NB213_215.out _).trans (((cell_far (p := ⟨gb215, _, none⟩) NB213_215.out _).trans (hHeld.2.1)))), ((cell_far (p := ⟨gb215, _, none⟩) NB214_215.out _).trans (((cell_far (p := ⟨gb215, _, none⟩) NB214_215.out _).trans (hHeld.2.2.1)))), ((cell_far (p := ⟨gb215, _, none⟩) NB214_215.out _).trans (((cell_far (p := ⟨gb215, _, none⟩) NB214_215.out _).trans (hHeld.2.2.2))))⟩ (fun hHeld => ?_)
  clear hK K
  refine pu_ 18 (some 5) (m_ 19 524287) rfl rfl (ao HT_) ?_
  refine done_ (done_of HT_.out (by kernel_rfl)) ?_
  try go_wp2
  refine bodyPost_ret (results_ct rfl _ _ gb215 23 #[.int .i64 t238, .int .i64 t239] (0, 0) _ rfl (br_ BK215) Tryd.underlying23 rfl (by kernel_rfl)) rfl ?_
  exact ⟨ae, bf HB⟩

/-! ### demand_volume_2: function 38 -/
def demand_volume_2.T1 : Bool × List (List Nat × List Nat) := (true, [([], []), ([], []), ([1], [1]), ([2], [2]), ([0, 3, 3], [0, 3]), ([4], [4]), ([4], [4]), ([5, 4, 0, 1, 2, 3, 4, 5, 6], [5]), ([6, 7, 0, 1, 2, 3, 4, 5, 6, 7], [6])])
def demand_volume_2.B1 : List Nat := [0, 0, 2, 6, 15, 31, 31, 127, 255]
theorem demand_volume_2.tab1 : rtab .any (opsOf Tryd.f38 1) = demand_volume_2.T1 := by kernel_rfl
theorem demand_volume_2.bits1 : waitsOk demand_volume_2.T1.2 demand_volume_2.B1 = true := by kernel_rfl
theorem demand_volume_2.calls (k : Nat) (a0_0 : Int) (a0_1 : Int) (a1_0 : ByteArray) (a1_1 : Int) (a1_2 : Int) (a1_3 : Int) (a1_4 : Int) (a1_5 : Int) (a1_6 : Int) (a1_7 : Int) (a1_8 : Int) (a1_9 : Int) (a1_10 : Int) (r1 : Int) (r2 : Int) (r3 : Int) (gb241 : Nat) (w : World) (hcap0 : w.heap[gb241]? = some (.cells #[.string a1_0, .int .i64 a1_1, .int .i64 a1_2, .int .i64 a1_3, .int .i64 a1_4, .int .i64 a1_5, .int .i64 a1_6, .int .i64 a1_7, .int .i64 a1_8, .int .i64 a1_9, .int .i64 a1_10] 25 (0, 0))) (h : demand_volume_2.f k a0_0 a0_1 a1_0 a1_1 a1_2 a1_3 a1_4 a1_5 a1_6 a1_7 a1_8 a1_9 a1_10 = some (r1, r2, r3)) (hT : TabOK w) :
    Calls Tryd.prog 38 #[.agg #[.int .i64 a0_0, .int .i64 a0_1], .pointer (some ⟨gb241, 0, none⟩)] w fun e w' => e = .returned (.tuple #[.agg #[.int .i64 r1, .int .i64 r2], .int .i64 r3]) ∧ Below w.heap.size w w' := by
  have GT := Aside0.mk hT
  clear hT
  have hu25 := Tryd.underlying25
  have hu23 := Tryd.underlying23
  have HB := Aside0.mk (Below.refl w.heap.size w)
  have BK241 := Aside0.mk hcap0
  clear hcap0
  have H : ((demand_number.f a1_1).bind fun bt244 => ((frac_Mul.f k a0_0 a0_1 bt244.1 bt244.2).bind fun bt246 => (some (bt246.1, bt246.2.1, bt246.2.2)))) = some (r1, r2, r3) := h
  clear h
  replace H := bi_ H; obtain ⟨⟨t244, t245⟩, A3, H⟩ := H
  (try dsimp only at H)
  replace H := bi_ H; obtain ⟨⟨t246, t247, t248⟩, A4, H⟩ := H
  (try dsimp only at H)
  simp only [Option.some.injEq, Prod.mk.injEq] at H
  obtain ⟨rfl, rfl, rfl⟩ := H
  go_enter Tryd.func38, Tryd.ntmps38
  try go_wp2_with (first | ((with_reducible refine gd 2 rfl ?_); refine bx_ 2 23 #[.int .i64 a0_0, .int .i64 a0_1] rfl rfl ?_; intro gb242 hg w6 BK242 hb; have GE242 := bz HB hg; have ⟨NB241_242, NB242_241⟩ := nb BK241 hg; replace BK241 := bb BK241 hb; replace HB := bs HB hb; clear hb hg) | ((with_reducible refine gd 3 rfl ?_); refine bx_ 3 23 #[.int .i64 0, .int .i64 0] rfl rfl ?_; intro gb243 hg w7 BK243 hb; have GE243 := bz HB hg; have ⟨NB241_243, NB243_241⟩ := nb BK241 hg; have ⟨NB242_243, NB243_242⟩ := nb BK242 hg; replace BK241 := bb BK241 hb; replace BK242 := bb BK242 hb; replace HB := bs HB hb; clear hb hg))
  replace BK241 := Aside0.mk (blk_drew BK241.out)
  replace BK242 := Aside0.mk (blk_drew BK242.out)
  replace BK243 := Aside0.mk (blk_drew BK243.out)
  replace HB := Aside0.mk (below_drew1 HB.out)
  refine start_ (n := 9) (S := fun w' => c_ w' gb242 0 (.int .i64 a0_0) ∧ c_ w' gb242 1 (.int .i64 a0_1) ∧ c_ w' gb241 0 (.string a1_0) ∧ c_ w' gb241 1 (.int .i64 a1_1) ∧ c_ w' gb241 2 (.int .i64 a1_2) ∧ c_ w' gb241 3 (.int .i64 a1_3) ∧ c_ w' gb241 4 (.int .i64 a1_4) ∧ c_ w' gb241 5 (.int .i64 a1_5) ∧ c_ w' gb241 6 (.int .i64 a1_6) ∧ c_ w' gb241 7 (.int .i64 a1_7) ∧ c_ w' gb241 8 (.int .i64 a1_8) ∧ c_ w' gb241 9 (.int .i64 a1_9) ∧ c_ w' gb241 10 (.int .i64 a1_10)) (ds := []) (m_ 9 0) (by kernel_rfl) rfl rfl ⟨ct BK242 0, ct BK242 1, ct BK241 0, ct BK241 1, ct BK241 2, ct BK241 3, ct BK241 4, ct BK241 5, ct BK241 6, ct BK241 7, ct BK241 8, ct BK241 9, ct BK241 10⟩ (fun hHeld => ?_); refine with_tabW demand_volume_2.tab1 demand_volume_2.bits1 (fun HT_ HW_ => ?_)
  generalize w7.drew = w8 at BK241 BK242 BK243 HB hHeld ⊢
  refine pu_ 1 (some 6) (m_ 9 2) rfl rfl (ao HT_) ?_
  refine tk_ 0 (some 5) (m_ 9 3) rfl rfl (tw HT_ HW_) hHeld ?_
  refine tk_ 2 (some 7) (m_ 9 7) rfl rfl (tw HT_ HW_) hHeld ?_
  refine o1_ 3 (some 8) (m_ 9 15) rfl rfl (oo HT_) (fun K hK => ?_)
  refine gs_ rfl Tryd.func15 (demand_number.calls _ _ _ _ A3.out) ag ?_
  intro w9 hb
  replace BK241 := bb BK241 hb
  replace BK242 := bb BK242 hb
  replace BK243 := bb BK243 hb
  replace HB := bs HB hb
  (try clear hb)
  refine hK.out _ _ ⟨ct BK242 0, ct BK242 1, ct BK241 0, ct BK241 1, ct BK241 2, ct BK241 3, ct BK241 4, ct BK241 5, ct BK241 6, ct BK241 7, ct BK241 8, ct BK241 9, ct BK241 10⟩ (fun hHeld => ?_)
  clear hK K
  refine nr_ (some 8) ?_
  refine o1_ 4 (some 9) (m_ 9 31) rfl rfl (oo HT_) (fun K hK => ?_)
  refine gs_ rfl Tryd.func39 (frac_Mul.calls _ _ _ _ _ _ _ _ _ A4.out (tt GT)) ag ?_
  intro w10 hb
  replace BK241 := bb BK241 hb
  replace BK242 := bb BK242 hb
  replace BK243 := bb BK243 hb
  replace HB := bs HB hb
  (try clear hb)
  refine hK.out _ _ ⟨ct BK242 0, ct BK242 1, ct BK241 0, ct BK241 1, ct BK241 2, ct BK241 3, ct BK241 4, ct BK241 5, ct BK241 6, ct BK241 7, ct BK241 8, ct BK241 9, ct BK241 10⟩ (fun hHeld => ?_)
  clear hK K
  refine nr_ (some 9) ?_
  refine pu_ 5 (some 10) (m_ 9 63) rfl rfl (ao HT_) ?_
  refine pu_ 6 (some 11) (m_ 9 127) rfl rfl (ao HT_) ?_
  refine o1_ 7 (none) (m_ 9 255) rfl rfl (oo HT_) (fun K hK => ?_)
  have hs11 : c_ w10 gb243 0 (.int .i64 0) := ct BK243 0
  have hfs11 := blk_frozen BK243.out 0
  have hns11_0 := NB241_243.out
  have hns11_1 := NB242_243.out
  have hms11_0 := NB243_241.out
  have hms11_1 := NB243_242.out
  have hs12 : c_ w10 gb243 1 (.int .i64 0) := ct BK243 1
  have hfs12 := blk_frozen BK243.out 1
  have hns12_0 := NB241_243.out
  have hns12_1 := NB242_243.out
  have hms12_0 := NB243_241.out
  have hms12_1 := NB243_242.out
  refine skip_ (w1 := ?_) (by rfl) rfl ?_ ?_
  rotate_left
  · go_simp
    rfl
  refine hK.out _ _ ⟨((cell_far (p := ⟨gb243, _, none⟩) NB242_243.out _).trans (((cell_far (p := ⟨gb243, _, none⟩) NB242_243.out _).trans (hHeld.1)))), ((cell_far (p := ⟨gb243, _, none⟩) NB242_243.out _).trans (((cell_far (p := ⟨gb243, _, none⟩) NB242_243.out _).trans (hHeld.2.1)))), ((cell_far (p := ⟨gb243, _, none⟩) NB241_243.out _).trans (((cell_far (p := ⟨gb243, _, none⟩) NB241_243.out _).trans (hHeld.2.2.1)))), ((cell_far (p := ⟨gb243, _, none⟩) NB241_243.out _).trans (((cell_far (p := ⟨gb243, _, none⟩) NB241_243.out _).trans (hHeld.2.2.2.1)))), ((cell_far (p := ⟨gb243, _, none⟩) NB241_243.out _).trans (((cell_far (p := ⟨gb243, _, none⟩) NB241_243.out _).trans (hHeld.2.2.2.2.1)))), ((cell_far (p := ⟨gb243, _, none⟩) NB241_243.out _).trans (((cell_far (p := ⟨gb243, _, none⟩) NB241_243.out _).trans (hHeld.2.2.2.2.2.1)))), ((cell_far (p := ⟨gb243, _, none⟩) NB241_243.out _).trans (((cell_far (p := ⟨gb243, _, none⟩) NB241_243.out _).trans (hHeld.2.2.2.2.2.2.1)))), ((cell_far (p := ⟨gb243, _, none⟩) NB241_243.out _).trans (((cell_far (p := ⟨gb243, _, none⟩) NB241_243.out _).trans (hHeld.2.2.2.2.2.2.2.1)))), ((cell_far (p := ⟨gb243, _, none⟩) NB241_243.out _).trans (((cell_far (p := ⟨gb243, _, none⟩) NB241_243.out _).trans (hHeld.2.2.2.2.2.2.2.2.1)))), ((cell_far (p := ⟨gb243, _, none⟩) NB241_243.out _).trans (((cell_far (p := ⟨gb243, _, none⟩) NB241_243.out _).trans (hHeld.2.2.2.2.2.2.2.2.2.1)))), ((cell_far (p := ⟨gb243, _, none⟩) NB241_243.out _).trans (((cell_far (p := ⟨gb243, _, none⟩) NB241_243.out _).trans (hHeld.2.2.2.2.2.2.2.2.2.2.1)))), ((cell_far (p := ⟨gb243, _, none⟩) NB241_243.out _).trans (((cell_far (p := ⟨gb243, _, none⟩) NB241_243.out _).trans (hHeld.2.2.2.2.2.2.2.2.2.2.2.1)))), ((cell_far (p := ⟨gb243, _, none⟩) NB241_243.out _).trans (((cell_far (p := ⟨gb243, _, none⟩) NB241_243.out _).trans (hHeld.2.2.2.2.2.2.2.2.2.2.2.2))))⟩ (fun hHeld => ?_)
  clear hK K
  refine pu_ 8 (some 4) (m_ 9 511) rfl rfl (ao HT_) ?_
  refine done_ (done_of HT_.out (by kernel_rfl)) ?_
  try go_wp2
  refine bodyPost_ret (results_ct rfl _ _ gb243 23 #[.int .i64 t246, .int .i64 t247] (0, 0) _ rfl (br_ BK243) Tryd.underlying23 rfl (by kernel_rfl)) rfl ?_
  exact ⟨ae, bf HB⟩

end Go.Proofs.YtcdaedhphdmnoaaDoor.X
