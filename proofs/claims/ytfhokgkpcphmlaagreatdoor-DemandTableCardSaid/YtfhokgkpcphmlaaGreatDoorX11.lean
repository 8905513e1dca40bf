/- Walks: each '.calls' says that the Go function comes to what its Lean function tells. Conditions: as each theorem's head says. -/
import Derived.Test.YtfhokgkpcphmlaaGreatDoorXD
import Derived.Test.YtfhokgkpcphmlaaGreatDoorX0
import Derived.Test.YtfhokgkpcphmlaaGreatDoorX9
import Derived.Test.YtfhokgkpcphmlaaGreatDoorX10
namespace Go.Proofs.YtfhokgkpcphmlaaGreatDoor.X
open Go.RowKit Go.Proofs.YtfhokgkpcphmlaaGreatDoorW.PrintWords Go.Proofs.YtfhokgkpcphmlaaGreatDoorW.PrintLast Go.Proofs.YtfhokgkpcphmlaaGreatDoorW.PrintMore
attribute [local go_sem] max2_int min2_int max_two min_two max_three min_three max_four min_four   -- for this text's walks alone
set_option linter.unusedVariables false
set_option maxHeartbeats 8000000
set_option maxRecDepth 100000
set_option linter.unusedSimpArgs false

/-! ### frac_Mul: function 33 -/
def frac_Mul.T2 : Bool × List (List Nat × List Nat) := (true, [([], []), ([0], [0]), ([1], [1]), ([], []), ([3], [3]), ([4, 2], [4]), ([2, 5, 5], [2, 5]), ([], []), ([7], [7]), ([8, 6], [8]), ([], []), ([10], [10]), ([11, 9], [11]), ([9, 12, 12], [9, 12]), ([6, 13, 13], [6, 13]), ([14], [14]), ([14], [14]), ([15, 14, 0, 1, 2, 3, 4, 5, 6, 7, 8, 9, 10, 11, 12, 13, 14, 15, 16], [15]), ([16, 17, 0, 1, 2, 3, 4, 5, 6, 7, 8, 9, 10, 11, 12, 13, 14, 15, 16, 17], [16])])
def frac_Mul.B2 : List Nat := [0, 1, 3, 0, 8, 31, 63, 0, 128, 511, 0, 1024, 4095, 8191, 16383, 32767, 32767, 131071, 262143]
theorem frac_Mul.tab2 : rtab .any (opsOf Tryz.f33 2) = frac_Mul.T2 := by kernel_rfl
theorem frac_Mul.bits2 : waitsOk frac_Mul.T2.2 frac_Mul.B2 = true := by kernel_rfl
theorem frac_Mul.calls (k : Nat) (a0_0 : Int) (a0_1 : Int) (a1_0 : Int) (a1_1 : Int) (r1 : Int) (r2 : Int) (r3 : Int) (w : World) (h : frac_Mul.f k a0_0 a0_1 a1_0 a1_1 = some (r1, r2, r3)) (hT : TabOK w) :
  Calls Tryz.prog 33 #[.agg #[.int .i64 a0_0, .int .i64 a0_1], .agg #[.int .i64 a1_0, .int .i64 a1_1]] w fun e w' => e = .returned (.tuple #[.agg #[.int .i64 r1, .int .i64 r2], .int .i64 r3]) ∧ Below w.heap.size w w' := by
 have GT := Aside0.mk hT
 clear hT
 have hu23 := Tryz.underlying23
 have HB := Aside0.mk (Below.refl w.heap.size w)
 have H : ((frac_norm.f k a0_0 a0_1).bind fun bt264 => ((frac_norm.f k a1_0 a1_1).bind fun bt266 => ((frac_sized.f bt264.1).bind fun bt268 => ((frac_sized.f bt266.1).bind fun bt271 => ((frac_signed_times.f bt268.1 bt268.2.1 bt268.2.2 bt271.1 bt271.2.1 bt271.2.2).bind fun bt274 => ((frac_sized.f bt264.2).bind fun bt277 => ((frac_sized.f bt266.2).bind fun bt280 => ((frac_signed_times.f bt277.1 bt277.2.1 bt277.2.2 bt280.1 bt280.2.1 bt280.2.2).bind fun bt283 => ((frac_reduced.f k bt274.1 bt274.2.1 bt274.2.2 bt283.1 bt283.2.1 bt283.2.2).bind fun bt286 => (some (bt286.1, bt286.2.1, bt286.2.2))))))))))) = some (r1, r2, r3) := h
 clear h
 replace H := bi_ H; obtain ⟨⟨t264, t265⟩, A3, H⟩ := H
 (try dsimp only at H)
 replace H := bi_ H; obtain ⟨⟨t266, t267⟩, A4, H⟩ := H
 (try dsimp only at H)
 replace H := bi_ H; obtain ⟨⟨t268, t269, t270⟩, A5, H⟩ := H
 (try dsimp only at H)
 replace H := bi_ H; obtain ⟨⟨t271, t272, t273⟩, A6, H⟩ := H
 (try dsimp only at H)
 replace H := bi_ H; obtain ⟨⟨t274, t275, t276⟩, A7, H⟩ := H
 (try dsimp only at H)
 replace H := bi_ H; obtain ⟨⟨t277, t278, t279⟩, A8, H⟩ := H
 (try dsimp only at H)
 replace H := bi_ H; obtain ⟨⟨t280, t281, t282⟩, A9, H⟩ := H
 (try dsimp only at H)
 replace H := bi_ H; obtain ⟨⟨t283, t284, t285⟩, A10, H⟩ := H
 (try dsimp only at H)
 replace H := bi_ H; obtain ⟨⟨t286, t287, t288⟩, A11, H⟩ := H
 (try dsimp only at H)
 simp only [Option.some.injEq, Prod.mk.injEq] at H
 obtain ⟨rfl, rfl, rfl⟩ := H
 go_enter Tryz.func33, Tryz.ntmps33
 try go_wp2_with (first | ((with_reducible refine gd 2 rfl ?_); refine bx_ 2 23 #[.int .i64 a0_0, .int .i64 a0_1] rfl rfl ?_; intro gb261 hg w12 BK261 hb; have GE261 := bz HB hg; replace HB := bs HB hb; clear hb hg) | ((with_reducible refine gd 3 rfl ?_); refine bx_ 3 23 #[.int .i64 a1_0, .int .i64 a1_1] rfl rfl ?_; intro gb262 hg w13 BK262 hb; have GE262 := bz HB hg; have ⟨NB261_262, NB262_261⟩ := nb BK261 hg; replace BK261 := bb BK261 hb; replace HB := bs HB hb; clear hb hg) | ((with_reducible refine gd 4 rfl ?_); refine bx_ 4 23 #[.int .i64 0, .int .i64 0] rfl rfl ?_; intro gb263 hg w14 BK263 hb; have GE263 := bz HB hg; have ⟨NB261_263, NB263_261⟩ := nb BK261 hg; have ⟨NB262_263, NB263_262⟩ := nb BK262 hg; replace BK261 := bb BK261 hb; replace BK262 := bb BK262 hb; replace HB := bs HB hb; clear hb hg))
 replace BK261 := Aside0.mk (blk_drew BK261.out)
 replace BK262 := Aside0.mk (blk_drew BK262.out)
 replace BK263 := Aside0.mk (blk_drew BK263.out)
 replace HB := Aside0.mk (below_drew1 HB.out)
 refine start_ (n := 6) (S := fun w' => c_ w' gb261 0 (.int .i64 a0_0) ∧ c_ w' gb261 1 (.int .i64 a0_1) ∧ c_ w' gb262 0 (.int .i64 a1_0) ∧ c_ w' gb262 1 (.int .i64 a1_1)) (ds := [4, 5]) (m_ 6 0) (by kernel_rfl) rfl rfl ⟨ct BK261 0, ct BK261 1, ct BK262 0, ct BK262 1⟩ (fun hHeld => ?_)
 generalize w14.drew = w15 at BK261 BK262 BK263 HB hHeld ⊢
 refine tk_ 0 (some 6) (m_ 6 1) rfl rfl (by kernel_rfl) hHeld ?_
 refine tk_ 2 (some 8) (m_ 6 5) rfl rfl (by kernel_rfl) hHeld ?_
 refine o1_ 1 (some 7) (m_ 6 7) rfl rfl (by kernel_rfl) (fun K hK => ?_)
 refine gs_ rfl Tryz.func35 (frac_norm.calls _ _ _ _ _ _ A3.out (tt GT)) ag ?_
 intro w16 hb
 replace BK261 := bb BK261 hb
 replace BK262 := bb BK262 hb
 replace BK263 := bb BK263 hb
 replace HB := bs HB hb
 (try clear hb)
 refine hK.out _ _ ⟨ct BK261 0, ct BK261 1, ct BK262 0, ct BK262 1⟩ (fun hHeld => ?_)
 clear hK K
 refine nr_ (some 7) ?_
 refine o1_ 3 (some 9) (m_ 6 15) rfl rfl (by kernel_rfl) (fun K hK => ?_)
 refine gs_ rfl Tryz.func35 (frac_norm.calls _ _ _ _ _ _ A4.out (tt GT)) ag ?_
 intro w17 hb
 replace BK261 := bb BK261 hb
 replace BK262 := bb BK262 hb
 replace BK263 := bb BK263 hb
 replace HB := bs HB hb
 (try clear hb)
 refine hK.out _ _ ⟨ct BK261 0, ct BK261 1, ct BK262 0, ct BK262 1⟩ (fun hHeld => ?_)
 clear hK K
 refine nr_ (some 9) ?_
 refine last_ (i := 4) (N := none) (m_ 6 31) rfl rfl (by kernel_rfl) (by decide) (fun K hK => ?_)
 have hs18 : c_ w17 gb261 0 (.int .i64 a0_0) := ct BK261 0
 have hfs18 := blk_frozen BK261.out 0
 have hns18_1 := NB262_261.out
 have hns18_2 := NB263_261.out
 have hms18_1 := NB261_262.out
 have hms18_2 := NB261_263.out
 have hs19 : c_ w17 gb261 1 (.int .i64 a0_1) := ct BK261 1
 have hfs19 := blk_frozen BK261.out 1
 have hns19_1 := NB262_261.out
 have hns19_2 := NB263_261.out
 have hms19_1 := NB261_262.out
 have hms19_2 := NB261_263.out
 refine skip_ (w1 := ?_) (by rfl) rfl ?_ ?_
 rotate_left
 ·go_simp
  rfl
 refine hK.out _ _ ?_
 clear hK K
 refine last_ (i := 5) (N := none) (m_ 6 63) rfl rfl (by kernel_rfl) (by decide) (fun K hK => ?_)
 have hs20 : c_ w17 gb262 0 (.int .i64 a1_0) := ct BK262 0
 have hfs20 := blk_frozen BK262.out 0
 have hns20_0 := NB261_262.out
 have hns20_2 := NB263_262.out
 have hms20_0 := NB262_261.out
 have hms20_2 := NB262_263.out
 have hs21 : c_ w17 gb262 1 (.int .i64 a1_1) := ct BK262 1
 have hfs21 := blk_frozen BK262.out 1
 have hns21_0 := NB261_262.out
 have hns21_2 := NB263_262.out
 have hms21_0 := NB262_261.out
 have hms21_2 := NB262_263.out
 refine skip_ (w1 := ?_) (by rfl) rfl ?_ ?_
 rotate_left
 ·go_simp
  rfl
 refine hK.out _ _ ?_
 clear hK K
 refine done_ (by kernel_rfl) ?_
 try go_wp2
 have n0_ : Aside0 (((((w17.setCell ⟨gb261, 0, none⟩ (.int .i64 t264)).setCell ⟨gb261, 1, none⟩ (.int .i64 t265)).setCell ⟨gb262, 0, none⟩ (.int .i64 t266)).setCell ⟨gb262, 1, none⟩ (.int .i64 t267)).heap[gb261]? = some (.cells #[.int .i64 t264, .int .i64 t265] 23 (0, 0))) := bq_ BK261
 have n1_ : Aside0 (((((w17.setCell ⟨gb261, 0, none⟩ (.int .i64 t264)).setCell ⟨gb261, 1, none⟩ (.int .i64 t265)).setCell ⟨gb262, 0, none⟩ (.int .i64 t266)).setCell ⟨gb262, 1, none⟩ (.int .i64 t267)).heap[gb262]? = some (.cells #[.int .i64 t266, .int .i64 t267] 23 (0, 0))) := bq_ BK262
 have n2_ : Aside0 (((((w17.setCell ⟨gb261, 0, none⟩ (.int .i64 t264)).setCell ⟨gb261, 1, none⟩ (.int .i64 t265)).setCell ⟨gb262, 0, none⟩ (.int .i64 t266)).setCell ⟨gb262, 1, none⟩ (.int .i64 t267)).heap[gb263]? = some (.cells #[.int .i64 0, .int .i64 0] 23 (0, 0))) := bu_ BK263
 have n3_ : Aside0 (Below w.heap.size w ((((w17.setCell ⟨gb261, 0, none⟩ (.int .i64 t264)).setCell ⟨gb261, 1, none⟩ (.int .i64 t265)).setCell ⟨gb262, 0, none⟩ (.int .i64 t266)).setCell ⟨gb262, 1, none⟩ (.int .i64 t267))) := ⟨bf HB⟩
 (try clear BK261); (try clear BK262); (try clear BK263); (try clear HB)
 generalize ((((w17.setCell ⟨gb261, 0, none⟩ (.int .i64 t264)).setCell ⟨gb261, 1, none⟩ (.int .i64 t265)).setCell ⟨gb262, 0, none⟩ (.int .i64 t266)).setCell ⟨gb262, 1, none⟩ (.int .i64 t267)) = w22 at n0_ n1_ n2_ n3_ ⊢
 have BK261 := n0_
 have BK262 := n1_
 have BK263 := n2_
 have HB := n3_
 clear n0_ n1_ n2_ n3_
 replace BK261 := Aside0.mk (blk_drew BK261.out)
 replace BK262 := Aside0.mk (blk_drew BK262.out)
 replace BK263 := Aside0.mk (blk_drew BK263.out)
 replace HB := Aside0.mk (below_drew1 HB.out)
 refine start_ (n := 19) (S := fun w' => c_ w' gb261 0 (.int .i64 t264) ∧ c_ w' gb261 1 (.int .i64 t265) ∧ c_ w' gb262 0 (.int .i64 t266) ∧ c_ w' gb262 1 (.int .i64 t267)) (ds := []) (m_ 19 0) (by kernel_rfl) rfl rfl ⟨ct BK261 0, ct BK261 1, ct BK262 0, ct BK262 1⟩ (fun hHeld => ?_); refine with_tabW frac_Mul.tab2 frac_Mul.bits2 (fun HT_ HW_ => ?_)
 generalize w22.drew = w23 at BK261 BK262 BK263 HB hHeld ⊢
 refine pu_ 0 (some 10) (m_ 19 1) rfl rfl (ao HT_) ?_
 refine pu_ 3 (some 13) (m_ 19 9) rfl rfl (ao HT_) ?_
 refine pu_ 7 (some 17) (m_ 19 137) rfl rfl (ao HT_) ?_
 refine pu_ 10 (some 20) (m_ 19 1161) rfl rfl (ao HT_) ?_
 refine tk_ 1 (some 11) (m_ 19 1163) rfl rfl (tw HT_ HW_) hHeld ?_
 refine tk_ 4 (some 14) (m_ 19 1179) rfl rfl (tw HT_ HW_) hHeld ?_
 refine tk_ 8 (some 18) (m_ 19 1435) rfl rfl (tw HT_ HW_) hHeld ?_
 refine tk_ 11 (some 21) (m_ 19 3483) rfl rfl (tw HT_ HW_) hHeld ?_
 refine o1_ 2 (some 12) (m_ 19 3487) rfl rfl (oo HT_) (fun K hK => ?_)
 refine gs_ rfl Tryz.func37 (frac_sized.calls _ _ _ _ _ A5.out) ag ?_
 intro w24 hb
 replace BK261 := bb BK261 hb
 replace BK262 := bb BK262 hb
 replace BK263 := bb BK263 hb
 replace HB := bs HB hb
 (try clear hb)
 refine hK.out _ _ ⟨ct BK261 0, ct BK261 1, ct BK262 0, ct BK262 1⟩ (fun hHeld => ?_)
 clear hK K
 refine nr_ (some 12) ?_
 refine o1_ 5 (some 15) (m_ 19 3519) rfl rfl (oo HT_) (fun K hK => ?_)
 refine gs_ rfl Tryz.func37 (frac_sized.calls _ _ _ _ _ A6.out) ag ?_
 intro w25 hb
 replace BK261 := bb BK261 hb
 replace BK262 := bb BK262 hb
 replace BK263 := bb BK263 hb
 replace HB := bs HB hb
 (try clear hb)
 refine hK.out _ _ ⟨ct BK261 0, ct BK261 1, ct BK262 0, ct BK262 1⟩ (fun hHeld => ?_)
 clear hK K
 refine nr_ (some 15) ?_
 refine o1_ 6 (some 16) (m_ 19 3583) rfl rfl (oo HT_) (fun K hK => ?_)
 refine gs_ rfl Tryz.func38 (frac_signed_times.calls _ _ _ _ _ _ _ _ _ _ A7.out) ag ?_
 intro w26 hb
 replace BK261 := bb BK261 hb
 replace BK262 := bb BK262 hb
 replace BK263 := bb BK263 hb
 replace HB := bs HB hb
 (try clear hb)
 refine hK.out _ _ ⟨ct BK261 0, ct BK261 1, ct BK262 0, ct BK262 1⟩ (fun hHeld => ?_)
 clear hK K
 refine nr_ (some 16) ?_
 refine o1_ 9 (some 19) (m_ 19 4095) rfl rfl (oo HT_) (fun K hK => ?_)
 refine gs_ rfl Tryz.func37 (frac_sized.calls _ _ _ _ _ A8.out) ag ?_
 intro w27 hb
 replace BK261 := bb BK261 hb
 replace BK262 := bb BK262 hb
 replace BK263 := bb BK263 hb
 replace HB := bs HB hb
 (try clear hb)
 refine hK.out _ _ ⟨ct BK261 0, ct BK261 1, ct BK262 0, ct BK262 1⟩ (fun hHeld => ?_)
 clear hK K
 refine nr_ (some 19) ?_
 refine o1_ 12 (some 22) (m_ 19 8191) rfl rfl (oo HT_) (fun K hK => ?_)
 refine gs_ rfl Tryz.func37 (frac_sized.calls _ _ _ _ _ A9.out) ag ?_
 intro w28 hb
 replace BK261 := bb BK261 hb
 replace BK262 := bb BK262 hb
 replace BK263 := bb BK263 hb
 replace HB := bs HB hb
 (try clear hb)
 refine hK.out _ _ ⟨ct BK261 0, ct BK261 1, ct BK262 0, ct BK262 1⟩ (fun hHeld => ?_)
 clear hK K
 refine nr_ (some 22) ?_
 refine o1_ 13 (some 23) (m_ 19 16383) rfl rfl (oo HT_) (fun K hK => ?_)
 refine gs_ rfl Tryz.func38 (frac_signed_times.calls _ _ _ _ _ _ _ _ _ _ A10.out) ag ?_
 intro w29 hb
 replace BK261 := bb BK261 hb
 replace BK262 := bb BK262 hb
 replace BK263 := bb BK263 hb
 replace HB := bs HB hb
 (try clear hb)
 refine hK.out _ _ ⟨ct BK261 0, ct BK261 1, ct BK262 0, ct BK262 1⟩ (fun hHeld => ?_)
 clear hK K
 refine nr_ (some 23) ?_
 refine o1_ 14 (some 24) (m_ 19 32767) rfl rfl (oo HT_) (fun K hK => ?_)
 refine gs_ rfl Tryz.func36 (frac_reduced.calls _ _ _ _ _ _ _ _ _ _ _ A11.out (tt GT)) ag ?_
 intro w30 hb
 replace BK261 := bb BK261 hb
 replace BK262 := bb BK262 hb
 replace BK263 := bb BK263 hb
 replace HB := bs HB hb
 (try clear hb)
 refine hK.out _ _ ⟨ct BK261 0, ct BK261 1, ct BK262 0, ct BK262 1⟩ (fun hHeld => ?_)
 clear hK K
 refine nr_ (some 24) ?_
 refine pu_ 15 (some 25) (m_ 19 65535) rfl rfl (ao HT_) ?_
 refine pu_ 16 (some 26) (m_ 19 131071) rfl rfl (ao HT_) ?_
 refine o1_ 17 (none) (m_ 19 262143) rfl rfl (oo HT_) (fun K hK => ?_)
 have hs31 : c_ w30 gb263 0 (.int .i64 0) := ct BK263 0
 have hfs31 := blk_frozen BK263.out 0
 have hns31_0 := NB261_263.out
 have hns31_1 := NB262_263.out
 have hms31_0 := NB263_261.out
 have hms31_1 := NB263_262.out
 have hs32 : c_ w30 gb263 1 (.int .i64 0) := ct BK263 1
 have hfs32 := blk_frozen BK263.out 1
 have hns32_0 := NB261_263.out
 have hns32_1 := NB262_263.out
 have hms32_0 := NB263_261.out
 have hms32_1 := NB263_262.out
 refine skip_ (w1 := ?_) (by rfl) rfl ?_ ?_
 rotate_left
 ·go_simp
  rfl
 refine hK.out _ _ (by obtain ⟨d0, d1, d2, d3⟩ := hHeld; exact ⟨fa_ NB261_263 (fa_ NB261_263 d0), fa_ NB261_263 (fa_ NB261_263 d1), fa_ NB262_263 (fa_ NB262_263 d2), fa_ NB262_263 (fa_ NB262_263 d3)⟩) (fun hHeld => ?_)
 clear hK K
 refine pu_ 18 (some 5) (m_ 19 524287) rfl rfl (ao HT_) ?_
 refine done_ (done_of HT_.out (by kernel_rfl)) ?_
 try go_wp2
 refine bodyPost_ret (results_ct rfl _ _ gb263 23 #[.int .i64 t286, .int .i64 t287] (0, 0) _ rfl (br_ BK263) Tryz.underlying23 rfl (by kernel_rfl)) rfl ?_
 exact ⟨ae, bf HB⟩

/-! ### demand_volume_2: function 32 -/
def demand_volume_2.T1 : Bool × List (List Nat × List Nat) := (true, [([], []), ([], []), ([1], [1]), ([2], [2]), ([0, 3, 3], [0, 3]), ([4], [4]), ([4], [4]), ([5, 4, 0, 1, 2, 3, 4, 5, 6], [5]), ([6, 7, 0, 1, 2, 3, 4, 5, 6, 7], [6])])
def demand_volume_2.B1 : List Nat := [0, 0, 2, 6, 15, 31, 31, 127, 255]
theorem demand_volume_2.tab1 : rtab .any (opsOf Tryz.f32 1) = demand_volume_2.T1 := by kernel_rfl
theorem demand_volume_2.bits1 : waitsOk demand_volume_2.T1.2 demand_volume_2.B1 = true := by kernel_rfl
theorem demand_volume_2.calls (k : Nat) (a0_0 : Int) (a0_1 : Int) (a1_0 : ByteArray) (a1_1 : Int) (a1_2 : Int) (a1_3 : Int) (a1_4 : Int) (a1_5 : Int) (a1_6 : Int) (a1_7 : Int) (a1_8 : Int) (a1_9 : Int) (a1_10 : Int) (r1 : Int) (r2 : Int) (r3 : Int) (gb289 : Nat) (w : World) (hcap0 : w.heap[gb289]? = some (.cells #[.string a1_0, .int .i64 a1_1, .int .i64 a1_2, .int .i64 a1_3, .int .i64 a1_4, .int .i64 a1_5, .int .i64 a1_6, .int .i64 a1_7, .int .i64 a1_8, .int .i64 a1_9, .int .i64 a1_10] 48 (0, 0))) (h : demand_volume_2.f k a0_0 a0_1 a1_0 a1_1 a1_2 a1_3 a1_4 a1_5 a1_6 a1_7 a1_8 a1_9 a1_10 = some (r1, r2, r3)) (hT : TabOK w) :
  Calls Tryz.prog 32 #[.agg #[.int .i64 a0_0, .int .i64 a0_1], .pointer (some ⟨gb289, 0, none⟩)] w fun e w' => e = .returned (.tuple #[.agg #[.int .i64 r1, .int .i64 r2], .int .i64 r3]) ∧ Below w.heap.size w w' := by
 have GT := Aside0.mk hT
 clear hT
 have hu48 := Tryz.underlying48
 have hu23 := Tryz.underlying23
 have HB := Aside0.mk (Below.refl w.heap.size w)
 have BK289 := Aside0.mk hcap0
 clear hcap0
 have H : ((demand_number.f a1_1).bind fun bt292 => ((frac_Mul.f k a0_0 a0_1 bt292.1 bt292.2).bind fun bt294 => (some (bt294.1, bt294.2.1, bt294.2.2)))) = some (r1, r2, r3) := h
 clear h
 replace H := bi_ H; obtain ⟨⟨t292, t293⟩, A3, H⟩ := H
 (try dsimp only at H)
 replace H := bi_ H; obtain ⟨⟨t294, t295, t296⟩, A4, H⟩ := H
 (try dsimp only at H)
 simp only [Option.some.injEq, Prod.mk.injEq] at H
 obtain ⟨rfl, rfl, rfl⟩ := H
 go_enter Tryz.func32, Tryz.ntmps32
 try go_wp2_with (first | ((with_reducible refine gd 2 rfl ?_); refine bx_ 2 23 #[.int .i64 a0_0, .int .i64 a0_1] rfl rfl ?_; intro gb290 hg w6 BK290 hb; have GE290 := bz HB hg; have ⟨NB289_290, NB290_289⟩ := nb BK289 hg; replace BK289 := bb BK289 hb; replace HB := bs HB hb; clear hb hg) | ((with_reducible refine gd 3 rfl ?_); refine bx_ 3 23 #[.int .i64 0, .int .i64 0] rfl rfl ?_; intro gb291 hg w7 BK291 hb; have GE291 := bz HB hg; have ⟨NB289_291, NB291_289⟩ := nb BK289 hg; have ⟨NB290_291, NB291_290⟩ := nb BK290 hg; replace BK289 := bb BK289 hb; replace BK290 := bb BK290 hb; replace HB := bs HB hb; clear hb hg))
 replace BK289 := Aside0.mk (blk_drew BK289.out)
 replace BK290 := Aside0.mk (blk_drew BK290.out)
 replace BK291 := Aside0.mk (blk_drew BK291.out)
 replace HB := Aside0.mk (below_drew1 HB.out)
 refine start_ (n := 9) (S := fun w' => c_ w' gb290 0 (.int .i64 a0_0) ∧ c_ w' gb290 1 (.int .i64 a0_1) ∧ c_ w' gb289 0 (.string a1_0) ∧ c_ w' gb289 1 (.int .i64 a1_1) ∧ c_ w' gb289 2 (.int .i64 a1_2) ∧ c_ w' gb289 3 (.int .i64 a1_3) ∧ c_ w' gb289 4 (.int .i64 a1_4) ∧ c_ w' gb289 5 (.int .i64 a1_5) ∧ c_ w' gb289 6 (.int .i64 a1_6) ∧ c_ w' gb289 7 (.int .i64 a1_7) ∧ c_ w' gb289 8 (.int .i64 a1_8) ∧ c_ w' gb289 9 (.int .i64 a1_9) ∧ c_ w' gb289 10 (.int .i64 a1_10)) (ds := []) (m_ 9 0) (by kernel_rfl) rfl rfl ⟨ct BK290 0, ct BK290 1, ct BK289 0, ct BK289 1, ct BK289 2, ct BK289 3, ct BK289 4, ct BK289 5, ct BK289 6, ct BK289 7, ct BK289 8, ct BK289 9, ct BK289 10⟩ (fun hHeld => ?_); refine with_tabW demand_volume_2.tab1 demand_volume_2.bits1 (fun HT_ HW_ => ?_)
 generalize w7.drew = w8 at BK289 BK290 BK291 HB hHeld ⊢
 refine pu_ 1 (some 6) (m_ 9 2) rfl rfl (ao HT_) ?_
 refine tk_ 0 (some 5) (m_ 9 3) rfl rfl (tw HT_ HW_) hHeld ?_
 refine tk_ 2 (some 7) (m_ 9 7) rfl rfl (tw HT_ HW_) hHeld ?_
 refine o1_ 3 (some 8) (m_ 9 15) rfl rfl (oo HT_) (fun K hK => ?_)
 refine gs_ rfl Tryz.func18 (demand_number.calls _ _ _ _ A3.out) ag ?_
 intro w9 hb
 replace BK289 := bb BK289 hb
 replace BK290 := bb BK290 hb
 replace BK291 := bb BK291 hb
 replace HB := bs HB hb
 (try clear hb)
 refine hK.out _ _ ⟨ct BK290 0, ct BK290 1, ct BK289 0, ct BK289 1, ct BK289 2, ct BK289 3, ct BK289 4, ct BK289 5, ct BK289 6, ct BK289 7, ct BK289 8, ct BK289 9, ct BK289 10⟩ (fun hHeld => ?_)
 clear hK K
 refine nr_ (some 8) ?_
 refine o1_ 4 (some 9) (m_ 9 31) rfl rfl (oo HT_) (fun K hK => ?_)
 refine gs_ rfl Tryz.func33 (frac_Mul.calls _ _ _ _ _ _ _ _ _ A4.out (tt GT)) ag ?_
 intro w10 hb
 replace BK289 := bb BK289 hb
 replace BK290 := bb BK290 hb
 replace BK291 := bb BK291 hb
 replace HB := bs HB hb
 (try clear hb)
 refine hK.out _ _ ⟨ct BK290 0, ct BK290 1, ct BK289 0, ct BK289 1, ct BK289 2, ct BK289 3, ct BK289 4, ct BK289 5, ct BK289 6, ct BK289 7, ct BK289 8, ct BK289 9, ct BK289 10⟩ (fun hHeld => ?_)
 clear hK K
 refine nr_ (some 9) ?_
 refine pu_ 5 (some 10) (m_ 9 63) rfl rfl (ao HT_) ?_
 refine pu_ 6 (some 11) (m_ 9 127) rfl rfl (ao HT_) ?_
 refine o1_ 7 (none) (m_ 9 255) rfl rfl (oo HT_) (fun K hK => ?_)
 have hs11 : c_ w10 gb291 0 (.int .i64 0) := ct BK291 0
 have hfs11 := blk_frozen BK291.out 0
 have hns11_0 := NB289_291.out
 have hns11_1 := NB290_291.out
 have hms11_0 := NB291_289.out
 have hms11_1 := NB291_290.out
 have hs12 : c_ w10 gb291 1 (.int .i64 0) := ct BK291 1
 have hfs12 := blk_frozen BK291.out 1
 have hns12_0 := NB289_291.out
 have hns12_1 := NB290_291.out
 have hms12_0 := NB291_289.out
 have hms12_1 := NB291_290.out
 refine skip_ (w1 := ?_) (by rfl) rfl ?_ ?_
 rotate_left
 ·go_simp
  rfl
 refine hK.out _ _ (by obtain ⟨d0, d1, d2, d3, d4, d5, d6, d7, d8, d9, d10, d11, d12⟩ := hHeld; exact ⟨fa_ NB290_291 (fa_ NB290_291 d0), fa_ NB290_291 (fa_ NB290_291 d1), fa_ NB289_291 (fa_ NB289_291 d2), fa_ NB289_291 (fa_ NB289_291 d3), fa_ NB289_291 (fa_ NB289_291 d4), fa_ NB289_291 (fa_ NB289_291 d5), fa_ NB289_291 (fa_ NB289_291 d6), fa_ NB289_291 (fa_ NB289_291 d7), fa_ NB289_291 (fa_ NB289_291 d8), fa_ NB289_291 (fa_ NB289_291 d9), fa_ NB289_291 (fa_ NB289_291 d10), fa_ NB289_291 (fa_ NB289_291 d11), fa_ NB289_291 (fa_ NB289_291 d12)⟩) (fun hHeld => ?_)
 clear hK K
 refine pu_ 8 (some 4) (m_ 9 511) rfl rfl (ao HT_) ?_
 refine done_ (done_of HT_.out (by kernel_rfl)) ?_
 try go_wp2
 refine bodyPost_ret (results_ct rfl _ _ gb291 23 #[.int .i64 t294, .int .i64 t295] (0, 0) _ rfl (br_ BK291) Tryz.underlying23 rfl (by kernel_rfl)) rfl ?_
 exact ⟨ae, bf HB⟩

end Go.Proofs.YtfhokgkpcphmlaaGreatDoor.X
