/- Walks: each '.calls' says that the Go function comes to what its Lean function tells. Conditions: as each theorem's head says. -/
import Derived.Test.YtfhokgkpcphmlaaGreatDoorXD
import Derived.Test.YtfhokgkpcphmlaaGreatDoorX0
import Derived.Test.YtfhokgkpcphmlaaGreatDoorX6
import Derived.Test.YtfhokgkpcphmlaaGreatDoorX9
import Derived.Test.YtfhokgkpcphmlaaGreatDoorX10
import Derived.Test.YtfhokgkpcphmlaaGreatDoorX11
namespace Go.Proofs.YtfhokgkpcphmlaaGreatDoor.X
open Go.RowKit Go.Proofs.YtfhokgkpcphmlaaGreatDoorW.PrintWords Go.Proofs.YtfhokgkpcphmlaaGreatDoorW.PrintLast Go.Proofs.YtfhokgkpcphmlaaGreatDoorW.PrintMore
attribute [local go_sem] max2_int min2_int max_two min_two max_three min_three max_four min_four   -- for this text's walks alone
set_option linter.unusedVariables false
set_option maxHeartbeats 8000000
set_option maxRecDepth 100000
set_option linter.unusedSimpArgs false

/-! ### frac_Div: function 17 -/
def frac_Div.T4 : Bool × List (List Nat × List Nat) := (true, [([], []), ([0], [0]), ([1], [1]), ([], []), ([3], [3]), ([4, 2], [4]), ([2, 5, 5], [2, 5]), ([], []), ([7], [7]), ([8, 6], [8]), ([], []), ([10], [10]), ([11, 9], [11]), ([9, 12, 12], [9, 12]), ([6, 13, 13], [6, 13]), ([14], [14]), ([14], [14]), ([15, 14, 0, 1, 2, 3, 4, 5, 6, 7, 8, 9, 10, 11, 12, 13, 14, 15, 16], [15]), ([16, 17, 0, 1, 2, 3, 4, 5, 6, 7, 8, 9, 10, 11, 12, 13, 14, 15, 16, 17], [16])])
def frac_Div.B4 : List Nat := [0, 1, 3, 0, 8, 31, 63, 0, 128, 511, 0, 1024, 4095, 8191, 16383, 32767, 32767, 131071, 262143]
theorem frac_Div.tab4 : rtab .any (opsOf Tryz.f17 4) = frac_Div.T4 := by kernel_rfl
theorem frac_Div.bits4 : waitsOk frac_Div.T4.2 frac_Div.B4 = true := by kernel_rfl
theorem frac_Div.calls (k : Nat) (a0_0 : Int) (a0_1 : Int) (a1_0 : Int) (a1_1 : Int) (r1 : Int) (r2 : Int) (r3 : Int) (w : World) (h : frac_Div.f k a0_0 a0_1 a1_0 a1_1 = some (r1, r2, r3)) (hT : TabOK w) :
  Calls Tryz.prog 17 #[.agg #[.int .i64 a0_0, .int .i64 a0_1], .agg #[.int .i64 a1_0, .int .i64 a1_1]] w fun e w' => e = .returned (.tuple #[.agg #[.int .i64 r1, .int .i64 r2], .int .i64 r3]) ∧ Below w.heap.size w w' := by
 have GT := Aside0.mk hT
 clear hT
 have hu23 := Tryz.underlying23
 have HB := Aside0.mk (Below.refl w.heap.size w)
 have H : ((frac_norm.f k a0_0 a0_1).bind fun bt300 => ((frac_norm.f k a1_0 a1_1).bind fun bt302 => (if bt302.1 = 0 then (some (0, 0, 3)) else ((frac_sized.f bt300.1).bind fun bt304 => ((frac_sized.f bt302.2).bind fun bt307 => ((frac_signed_times.f bt304.1 bt304.2.1 bt304.2.2 bt307.1 bt307.2.1 bt307.2.2).bind fun bt310 => ((frac_sized.f bt300.2).bind fun bt313 => ((frac_sized.f bt302.1).bind fun bt316 => ((frac_signed_times.f bt313.1 bt313.2.1 bt313.2.2 bt316.1 bt316.2.1 bt316.2.2).bind fun bt319 => ((frac_reduced.f k bt310.1 bt310.2.1 bt310.2.2 bt319.1 bt319.2.1 bt319.2.2).bind fun bt322 => (some (bt322.1, bt322.2.1, bt322.2.2)))))))))))) = some (r1, r2, r3) := h
 clear h
 replace H := bi_ H; obtain ⟨⟨t300, t301⟩, A3, H⟩ := H
 (try dsimp only at H)
 replace H := bi_ H; obtain ⟨⟨t302, t303⟩, A4, H⟩ := H
 (try dsimp only at H)
 by_cases c5 : t302 = 0
 ·rw [if_pos c5] at H
  have c5b0 : (t302 == 0) = true := beq_iff_eq.mpr c5
  have c5b1 : (t302 != 0) = false := bne_eq_false_iff_eq.mpr c5
  clear c5
  simp only [Option.some.injEq, Prod.mk.injEq] at H
  obtain ⟨rfl, rfl, rfl⟩ := H
  go_enter Tryz.func17, Tryz.ntmps17
  try go_wp2_with (first | ((with_reducible refine gd 2 rfl ?_); refine bx_ 2 23 #[.int .i64 a0_0, .int .i64 a0_1] rfl rfl ?_; intro gb297 hg w6 BK297 hb; have GE297 := bz HB hg; replace HB := bs HB hb; clear hb hg) | ((with_reducible refine gd 3 rfl ?_); refine bx_ 3 23 #[.int .i64 a1_0, .int .i64 a1_1] rfl rfl ?_; intro gb298 hg w7 BK298 hb; have GE298 := bz HB hg; have ⟨NB297_298, NB298_297⟩ := nb BK297 hg; replace BK297 := bb BK297 hb; replace HB := bs HB hb; clear hb hg) | ((with_reducible refine gd 4 rfl ?_); refine bx_ 4 23 #[.int .i64 0, .int .i64 0] rfl rfl ?_; intro gb299 hg w8 BK299 hb; have GE299 := bz HB hg; have ⟨NB297_299, NB299_297⟩ := nb BK297 hg; have ⟨NB298_299, NB299_298⟩ := nb BK298 hg; replace BK297 := bb BK297 hb; replace BK298 := bb BK298 hb; replace HB := bs HB hb; clear hb hg))
  replace BK297 := Aside0.mk (blk_drew BK297.out)
  replace BK298 := Aside0.mk (blk_drew BK298.out)
  replace BK299 := Aside0.mk (blk_drew BK299.out)
  replace HB := Aside0.mk (below_drew1 HB.out)
  refine start_ (n := 6) (S := fun w' => c_ w' gb297 0 (.int .i64 a0_0) ∧ c_ w' gb297 1 (.int .i64 a0_1) ∧ c_ w' gb298 0 (.int .i64 a1_0) ∧ c_ w' gb298 1 (.int .i64 a1_1)) (ds := [4, 5]) (m_ 6 0) (by kernel_rfl) rfl rfl ⟨ct BK297 0, ct BK297 1, ct BK298 0, ct BK298 1⟩ (fun hHeld => ?_)
  generalize w8.drew = w9 at BK297 BK298 BK299 HB hHeld ⊢
  refine tk_ 0 (some 6) (m_ 6 1) rfl rfl (by kernel_rfl) hHeld ?_
  refine tk_ 2 (some 8) (m_ 6 5) rfl rfl (by kernel_rfl) hHeld ?_
  refine o1_ 1 (some 7) (m_ 6 7) rfl rfl (by kernel_rfl) (fun K hK => ?_)
  refine gs_ rfl Tryz.func35 (frac_norm.calls _ _ _ _ _ _ A3.out (tt GT)) ag ?_
  intro w10 hb
  replace BK297 := bb BK297 hb
  replace BK298 := bb BK298 hb
  replace BK299 := bb BK299 hb
  replace HB := bs HB hb
  (try clear hb)
  refine hK.out _ _ ⟨ct BK297 0, ct BK297 1, ct BK298 0, ct BK298 1⟩ (fun hHeld => ?_)
  clear hK K
  refine nr_ (some 7) ?_
  refine o1_ 3 (some 9) (m_ 6 15) rfl rfl (by kernel_rfl) (fun K hK => ?_)
  refine gs_ rfl Tryz.func35 (frac_norm.calls _ _ _ _ _ _ A4.out (tt GT)) ag ?_
  intro w11 hb
  replace BK297 := bb BK297 hb
  replace BK298 := bb BK298 hb
  replace BK299 := bb BK299 hb
  replace HB := bs HB hb
  (try clear hb)
  refine hK.out _ _ ⟨ct BK297 0, ct BK297 1, ct BK298 0, ct BK298 1⟩ (fun hHeld => ?_)
  clear hK K
  refine nr_ (some 9) ?_
  refine last_ (i := 4) (N := none) (m_ 6 31) rfl rfl (by kernel_rfl) (by decide) (fun K hK => ?_)
  have hs12 : c_ w11 gb297 0 (.int .i64 a0_0) := ct BK297 0
  have hfs12 := blk_frozen BK297.out 0
  have hns12_1 := NB298_297.out
  have hns12_2 := NB299_297.out
  have hms12_1 := NB297_298.out
  have hms12_2 := NB297_299.out
  have hs13 : c_ w11 gb297 1 (.int .i64 a0_1) := ct BK297 1
  have hfs13 := blk_frozen BK297.out 1
  have hns13_1 := NB298_297.out
  have hns13_2 := NB299_297.out
  have hms13_1 := NB297_298.out
  have hms13_2 := NB297_299.out
  refine skip_ (w1 := ?_) (by rfl) rfl ?_ ?_
  rotate_left
  ·go_simp
   rfl
  refine hK.out _ _ ?_
  clear hK K
  refine last_ (i := 5) (N := none) (m_ 6 63) rfl rfl (by kernel_rfl) (by decide) (fun K hK => ?_)
  have hs14 : c_ w11 gb298 0 (.int .i64 a1_0) := ct BK298 0
  have hfs14 := blk_frozen BK298.out 0
  have hns14_0 := NB297_298.out
  have hns14_2 := NB299_298.out
  have hms14_0 := NB298_297.out
  have hms14_2 := NB298_299.out
  have hs15 : c_ w11 gb298 1 (.int .i64 a1_1) := ct BK298 1
  have hfs15 := blk_frozen BK298.out 1
  have hns15_0 := NB297_298.out
  have hns15_2 := NB299_298.out
  have hms15_0 := NB298_297.out
  have hms15_2 := NB298_299.out
  refine skip_ (w1 := ?_) (by rfl) rfl ?_ ?_
  rotate_left
  ·go_simp
   rfl
  refine hK.out _ _ ?_
  clear hK K
  refine done_ (by kernel_rfl) ?_
  have hnb16 := nn NB298_297
  have hnb17 := nn NB298_299
  have hcz18 := X.k2 BK298
  have hnb19 := nn NB299_297
  have hcz20 := X.k2 BK299
  try go_wp2
  refine bodyPost_ret (results_ct rfl _ _ gb299 23 #[.int .i64 0, .int .i64 0] (0, 0) _ rfl (br_ BK299) Tryz.underlying23 rfl (by kernel_rfl)) rfl ?_
  exact ⟨ae, bf HB⟩
 ·rw [if_neg c5] at H
  have c5b0 : (t302 == 0) = false := beq_eq_false_iff_ne.mpr c5
  have c5b1 : (t302 != 0) = true := bne_iff_ne.mpr c5
  replace H := bi_ H; obtain ⟨⟨t304, t305, t306⟩, A21, H⟩ := H
  (try dsimp only at H)
  replace H := bi_ H; obtain ⟨⟨t307, t308, t309⟩, A22, H⟩ := H
  (try dsimp only at H)
  replace H := bi_ H; obtain ⟨⟨t310, t311, t312⟩, A23, H⟩ := H
  (try dsimp only at H)
  replace H := bi_ H; obtain ⟨⟨t313, t314, t315⟩, A24, H⟩ := H
  (try dsimp only at H)
  replace H := bi_ H; obtain ⟨⟨t316, t317, t318⟩, A25, H⟩ := H
  (try dsimp only at H)
  replace H := bi_ H; obtain ⟨⟨t319, t320, t321⟩, A26, H⟩ := H
  (try dsimp only at H)
  replace H := bi_ H; obtain ⟨⟨t322, t323, t324⟩, A27, H⟩ := H
  (try dsimp only at H)
  simp only [Option.some.injEq, Prod.mk.injEq] at H
  obtain ⟨rfl, rfl, rfl⟩ := H
  go_enter Tryz.func17, Tryz.ntmps17
  try go_wp2_with (first | ((with_reducible refine gd 2 rfl ?_); refine bx_ 2 23 #[.int .i64 a0_0, .int .i64 a0_1] rfl rfl ?_; intro gb297 hg w28 BK297 hb; have GE297 := bz HB hg; replace HB := bs HB hb; clear hb hg) | ((with_reducible refine gd 3 rfl ?_); refine bx_ 3 23 #[.int .i64 a1_0, .int .i64 a1_1] rfl rfl ?_; intro gb298 hg w29 BK298 hb; have GE298 := bz HB hg; have ⟨NB297_298, NB298_297⟩ := nb BK297 hg; replace BK297 := bb BK297 hb; replace HB := bs HB hb; clear hb hg) | ((with_reducible refine gd 4 rfl ?_); refine bx_ 4 23 #[.int .i64 0, .int .i64 0] rfl rfl ?_; intro gb299 hg w30 BK299 hb; have GE299 := bz HB hg; have ⟨NB297_299, NB299_297⟩ := nb BK297 hg; have ⟨NB298_299, NB299_298⟩ := nb BK298 hg; replace BK297 := bb BK297 hb; replace BK298 := bb BK298 hb; replace HB := bs HB hb; clear hb hg))
  replace BK297 := Aside0.mk (blk_drew BK297.out)
  replace BK298 := Aside0.mk (blk_drew BK298.out)
  replace BK299 := Aside0.mk (blk_drew BK299.out)
  replace HB := Aside0.mk (below_drew1 HB.out)
  refine start_ (n := 6) (S := fun w' => c_ w' gb297 0 (.int .i64 a0_0) ∧ c_ w' gb297 1 (.int .i64 a0_1) ∧ c_ w' gb298 0 (.int .i64 a1_0) ∧ c_ w' gb298 1 (.int .i64 a1_1)) (ds := [4, 5]) (m_ 6 0) (by kernel_rfl) rfl rfl ⟨ct BK297 0, ct BK297 1, ct BK298 0, ct BK298 1⟩ (fun hHeld => ?_)
  generalize w30.drew = w31 at BK297 BK298 BK299 HB hHeld ⊢
  refine tk_ 0 (some 6) (m_ 6 1) rfl rfl (by kernel_rfl) hHeld ?_
  refine tk_ 2 (some 8) (m_ 6 5) rfl rfl (by kernel_rfl) hHeld ?_
  refine o1_ 1 (some 7) (m_ 6 7) rfl rfl (by kernel_rfl) (fun K hK => ?_)
  refine gs_ rfl Tryz.func35 (frac_norm.calls _ _ _ _ _ _ A3.out (tt GT)) ag ?_
  intro w32 hb
  replace BK297 := bb BK297 hb
  replace BK298 := bb BK298 hb
  replace BK299 := bb BK299 hb
  replace HB := bs HB hb
  (try clear hb)
  refine hK.out _ _ ⟨ct BK297 0, ct BK297 1, ct BK298 0, ct BK298 1⟩ (fun hHeld => ?_)
  clear hK K
  refine nr_ (some 7) ?_
  refine o1_ 3 (some 9) (m_ 6 15) rfl rfl (by kernel_rfl) (fun K hK => ?_)
  refine gs_ rfl Tryz.func35 (frac_norm.calls _ _ _ _ _ _ A4.out (tt GT)) ag ?_
  intro w33 hb
  replace BK297 := bb BK297 hb
  replace BK298 := bb BK298 hb
  replace BK299 := bb BK299 hb
  replace HB := bs HB hb
  (try clear hb)
  refine hK.out _ _ ⟨ct BK297 0, ct BK297 1, ct BK298 0, ct BK298 1⟩ (fun hHeld => ?_)
  clear hK K
  refine nr_ (some 9) ?_
  refine last_ (i := 4) (N := none) (m_ 6 31) rfl rfl (by kernel_rfl) (by decide) (fun K hK => ?_)
  have hs34 : c_ w33 gb297 0 (.int .i64 a0_0) := ct BK297 0
  have hfs34 := blk_frozen BK297.out 0
  have hns34_1 := NB298_297.out
  have hns34_2 := NB299_297.out
  have hms34_1 := NB297_298.out
  have hms34_2 := NB297_299.out
  have hs35 : c_ w33 gb297 1 (.int .i64 a0_1) := ct BK297 1
  have hfs35 := blk_frozen BK297.out 1
  have hns35_1 := NB298_297.out
  have hns35_2 := NB299_297.out
  have hms35_1 := NB297_298.out
  have hms35_2 := NB297_299.out
  refine skip_ (w1 := ?_) (by rfl) rfl ?_ ?_
  rotate_left
  ·go_simp
   rfl
  refine hK.out _ _ ?_
  clear hK K
  refine last_ (i := 5) (N := none) (m_ 6 63) rfl rfl (by kernel_rfl) (by decide) (fun K hK => ?_)
  have hs36 : c_ w33 gb298 0 (.int .i64 a1_0) := ct BK298 0
  have hfs36 := blk_frozen BK298.out 0
  have hns36_0 := NB297_298.out
  have hns36_2 := NB299_298.out
  have hms36_0 := NB298_297.out
  have hms36_2 := NB298_299.out
  have hs37 : c_ w33 gb298 1 (.int .i64 a1_1) := ct BK298 1
  have hfs37 := blk_frozen BK298.out 1
  have hns37_0 := NB297_298.out
  have hns37_2 := NB299_298.out
  have hms37_0 := NB298_297.out
  have hms37_2 := NB298_299.out
  refine skip_ (w1 := ?_) (by rfl) rfl ?_ ?_
  rotate_left
  ·go_simp
   rfl
  refine hK.out _ _ ?_
  clear hK K
  refine done_ (by kernel_rfl) ?_
  have hnb38 := nn NB298_297
  have hnb39 := nn NB298_299
  have hcz40 := X.k2 BK298
  try go_wp2
  have n0_ : Aside0 (((((w33.setCell ⟨gb297, 0, none⟩ (.int .i64 t300)).setCell ⟨gb297, 1, none⟩ (.int .i64 t301)).setCell ⟨gb298, 0, none⟩ (.int .i64 t302)).setCell ⟨gb298, 1, none⟩ (.int .i64 t303)).heap[gb297]? = some (.cells #[.int .i64 t300, .int .i64 t301] 23 (0, 0))) := bq_ BK297
  have n1_ : Aside0 (((((w33.setCell ⟨gb297, 0, none⟩ (.int .i64 t300)).setCell ⟨gb297, 1, none⟩ (.int .i64 t301)).setCell ⟨gb298, 0, none⟩ (.int .i64 t302)).setCell ⟨gb298, 1, none⟩ (.int .i64 t303)).heap[gb298]? = some (.cells #[.int .i64 t302, .int .i64 t303] 23 (0, 0))) := bq_ BK298
  have n2_ : Aside0 (((((w33.setCell ⟨gb297, 0, none⟩ (.int .i64 t300)).setCell ⟨gb297, 1, none⟩ (.int .i64 t301)).setCell ⟨gb298, 0, none⟩ (.int .i64 t302)).setCell ⟨gb298, 1, none⟩ (.int .i64 t303)).heap[gb299]? = some (.cells #[.int .i64 0, .int .i64 0] 23 (0, 0))) := bu_ BK299
  have n3_ : Aside0 (Below w.heap.size w ((((w33.setCell ⟨gb297, 0, none⟩ (.int .i64 t300)).setCell ⟨gb297, 1, none⟩ (.int .i64 t301)).setCell ⟨gb298, 0, none⟩ (.int .i64 t302)).setCell ⟨gb298, 1, none⟩ (.int .i64 t303))) := ⟨bf HB⟩
  (try clear BK297); (try clear BK298); (try clear BK299); (try clear HB)
  generalize ((((w33.setCell ⟨gb297, 0, none⟩ (.int .i64 t300)).setCell ⟨gb297, 1, none⟩ (.int .i64 t301)).setCell ⟨gb298, 0, none⟩ (.int .i64 t302)).setCell ⟨gb298, 1, none⟩ (.int .i64 t303)) = w41 at n0_ n1_ n2_ n3_ ⊢
  have BK297 := n0_
  have BK298 := n1_
  have BK299 := n2_
  have HB := n3_
  clear n0_ n1_ n2_ n3_
  replace BK297 := Aside0.mk (blk_drew BK297.out)
  replace BK298 := Aside0.mk (blk_drew BK298.out)
  replace BK299 := Aside0.mk (blk_drew BK299.out)
  replace HB := Aside0.mk (below_drew1 HB.out)
  refine start_ (n := 19) (S := fun w' => c_ w' gb297 0 (.int .i64 t300) ∧ c_ w' gb297 1 (.int .i64 t301) ∧ c_ w' gb298 0 (.int .i64 t302) ∧ c_ w' gb298 1 (.int .i64 t303)) (ds := []) (m_ 19 0) (by kernel_rfl) rfl rfl ⟨ct BK297 0, ct BK297 1, ct BK298 0, ct BK298 1⟩ (fun hHeld => ?_); refine with_tabW frac_Div.tab4 frac_Div.bits4 (fun HT_ HW_ => ?_)
  generalize w41.drew = w42 at BK297 BK298 BK299 HB hHeld ⊢
  refine pu_ 0 (some 14) (m_ 19 1) rfl rfl (ao HT_) ?_
  refine pu_ 3 (some 17) (m_ 19 9) rfl rfl (ao HT_) ?_
  refine pu_ 7 (some 21) (m_ 19 137) rfl rfl (ao HT_) ?_
  refine pu_ 10 (some 24) (m_ 19 1161) rfl rfl (ao HT_) ?_
  refine tk_ 1 (some 15) (m_ 19 1163) rfl rfl (tw HT_ HW_) hHeld ?_
  refine tk_ 4 (some 18) (m_ 19 1179) rfl rfl (tw HT_ HW_) hHeld ?_
  refine tk_ 8 (some 22) (m_ 19 1435) rfl rfl (tw HT_ HW_) hHeld ?_
  refine tk_ 11 (some 25) (m_ 19 3483) rfl rfl (tw HT_ HW_) hHeld ?_
  refine o1_ 2 (some 16) (m_ 19 3487) rfl rfl (oo HT_) (fun K hK => ?_)
  refine gs_ rfl Tryz.func37 (frac_sized.calls _ _ _ _ _ A21.out) ag ?_
  intro w43 hb
  replace BK297 := bb BK297 hb
  replace BK298 := bb BK298 hb
  replace BK299 := bb BK299 hb
  replace HB := bs HB hb
  (try clear hb)
  refine hK.out _ _ ⟨ct BK297 0, ct BK297 1, ct BK298 0, ct BK298 1⟩ (fun hHeld => ?_)
  clear hK K
  refine nr_ (some 16) ?_
  refine o1_ 5 (some 19) (m_ 19 3519) rfl rfl (oo HT_) (fun K hK => ?_)
  refine gs_ rfl Tryz.func37 (frac_sized.calls _ _ _ _ _ A22.out) ag ?_
  intro w44 hb
  replace BK297 := bb BK297 hb
  replace BK298 := bb BK298 hb
  replace BK299 := bb BK299 hb
  replace HB := bs HB hb
  (try clear hb)
  refine hK.out _ _ ⟨ct BK297 0, ct BK297 1, ct BK298 0, ct BK298 1⟩ (fun hHeld => ?_)
  clear hK K
  refine nr_ (some 19) ?_
  refine o1_ 6 (some 20) (m_ 19 3583) rfl rfl (oo HT_) (fun K hK => ?_)
  refine gs_ rfl Tryz.func38 (frac_signed_times.calls _ _ _ _ _ _ _ _ _ _ A23.out) ag ?_
  intro w45 hb
  replace BK297 := bb BK297 hb
  replace BK298 := bb BK298 hb
  replace BK299 := bb BK299 hb
  replace HB := bs HB hb
  (try clear hb)
  refine hK.out _ _ ⟨ct BK297 0, ct BK297 1, ct BK298 0, ct BK298 1⟩ (fun hHeld => ?_)
  clear hK K
  refine nr_ (some 20) ?_
  refine o1_ 9 (some 23) (m_ 19 4095) rfl rfl (oo HT_) (fun K hK => ?_)
  refine gs_ rfl Tryz.func37 (frac_sized.calls _ _ _ _ _ A24.out) ag ?_
  intro w46 hb
  replace BK297 := bb BK297 hb
  replace BK298 := bb BK298 hb
  replace BK299 := bb BK299 hb
  replace HB := bs HB hb
  (try clear hb)
  refine hK.out _ _ ⟨ct BK297 0, ct BK297 1, ct BK298 0, ct BK298 1⟩ (fun hHeld => ?_)
  clear hK K
  refine nr_ (some 23) ?_
  refine o1_ 12 (some 26) (m_ 19 8191) rfl rfl (oo HT_) (fun K hK => ?_)
  refine gs_ rfl Tryz.func37 (frac_sized.calls _ _ _ _ _ A25.out) ag ?_
  intro w47 hb
  replace BK297 := bb BK297 hb
  replace BK298 := bb BK298 hb
  replace BK299 := bb BK299 hb
  replace HB := bs HB hb
  (try clear hb)
  refine hK.out _ _ ⟨ct BK297 0, ct BK297 1, ct BK298 0, ct BK298 1⟩ (fun hHeld => ?_)
  clear hK K
  refine nr_ (some 26) ?_
  refine o1_ 13 (some 27) (m_ 19 16383) rfl rfl (oo HT_) (fun K hK => ?_)
  refine gs_ rfl Tryz.func38 (frac_signed_times.calls _ _ _ _ _ _ _ _ _ _ A26.out) ag ?_
  intro w48 hb
  replace BK297 := bb BK297 hb
  replace BK298 := bb BK298 hb
  replace BK299 := bb BK299 hb
  replace HB := bs HB hb
  (try clear hb)
  refine hK.out _ _ ⟨ct BK297 0, ct BK297 1, ct BK298 0, ct BK298 1⟩ (fun hHeld => ?_)
  clear hK K
  refine nr_ (some 27) ?_
  refine o1_ 14 (some 28) (m_ 19 32767) rfl rfl (oo HT_) (fun K hK => ?_)
  refine gs_ rfl Tryz.func36 (frac_reduced.calls _ _ _ _ _ _ _ _ _ _ _ A27.out (tt GT)) ag ?_
  intro w49 hb
  replace BK297 := bb BK297 hb
  replace BK298 := bb BK298 hb
  replace BK299 := bb BK299 hb
  replace HB := bs HB hb
  (try clear hb)
  refine hK.out _ _ ⟨ct BK297 0, ct BK297 1, ct BK298 0, ct BK298 1⟩ (fun hHeld => ?_)
  clear hK K
  refine nr_ (some 28) ?_
  refine pu_ 15 (some 29) (m_ 19 65535) rfl rfl (ao HT_) ?_
  refine pu_ 16 (some 30) (m_ 19 131071) rfl rfl (ao HT_) ?_
  refine o1_ 17 (none) (m_ 19 262143) rfl rfl (oo HT_) (fun K hK => ?_)
  have hs50 : c_ w49 gb299 0 (.int .i64 0) := ct BK299 0
  have hfs50 := blk_frozen BK299.out 0
  have hns50_0 := NB297_299.out
  have hns50_1 := NB298_299.out
  have hms50_0 := NB299_297.out
  have hms50_1 := NB299_298.out
  have hs51 : c_ w49 gb299 1 (.int .i64 0) := ct BK299 1
  have hfs51 := blk_frozen BK299.out 1
  have hns51_0 := NB297_299.out
  have hns51_1 := NB298_299.out
  have hms51_0 := NB299_297.out
  have hms51_1 := NB299_298.out
  refine skip_ (w1 := ?_) (by rfl) rfl ?_ ?_
  rotate_left
  ·go_simp
   rfl
  refine hK.out _ _ (by obtain ⟨d0, d1, d2, d3⟩ := hHeld; exact ⟨fa_ NB297_299 (fa_ NB297_299 d0), fa_ NB297_299 (fa_ NB297_299 d1), fa_ NB298_299 (fa_ NB298_299 d2), fa_ NB298_299 (fa_ NB298_299 d3)⟩) (fun hHeld => ?_)
  clear hK K
  refine pu_ 18 (some 5) (m_ 19 524287) rfl rfl (ao HT_) ?_
  refine done_ (done_of HT_.out (by kernel_rfl)) ?_
  try go_wp2
  refine bodyPost_ret (results_ct rfl _ _ gb299 23 #[.int .i64 t322, .int .i64 t323] (0, 0) _ rfl (br_ BK299) Tryz.underlying23 rfl (by kernel_rfl)) rfl ?_
  exact ⟨ae, bf HB⟩


/-! ### demand_volume_3: function 34 -/
/-! ### demand_volume: function 14 -/
theorem demand_vol3 (k : Nat) (v0 v1 p0 p1 c0 c1 c2 r0 r1 r2 : Int) (g5 g3 : Nat) (w : World) (h5 : w.heap[g5]? = some (.cells #[.func (.func 30) #[] #[]] 70 (0, 0))) (h3 : w.heap[g3]? = some (.cells #[.int .i64 p0, .int .i64 p1] 23 (0, 0)))
    (hc : demand_volume_1.f k p0 p1 = some (c0, c1, c2)) (hr : (if c2 = 0 then frac_Div.f k v0 v1 c0 c1 else some (0, 0, c2)) = some (r0, r1, r2)) (hT : TabOK w) :
    Calls Tryz.prog 34 #[.agg #[.int .i64 v0, .int .i64 v1], .pointer (some ⟨g5, 0, none⟩), .pointer (some ⟨g3, 0, none⟩)] w fun e w' => e = .returned (.tuple #[.agg #[.int .i64 r0, .int .i64 r1], .int .i64 r2]) ∧ Below w.heap.size w w' := by
  have GT := Aside0.mk hT
  have BK5 := Aside0.mk h5
  have BK3 := Aside0.mk h3
  have A1 := Aside0.mk hc
  clear hT h5 h3 hc
  have hu2 := Tryz.underlying23
  have HB := Aside0.mk (Below.refl w.heap.size w)
  by_cases c4 : c2 = 0
  · rw [if_pos c4] at hr
    have A2 := Aside0.mk hr
    have c4b0 : (c2 == 0) = true := beq_iff_eq.mpr c4
    have c4b1 : (c2 != 0) = false := bne_eq_false_iff_eq.mpr c4
    clear hr c4
    go_enter Tryz.func34, Tryz.ntmps34
    go_wp2_with (first | ((with_reducible refine gd 3 rfl ?_); refine bx_ 3 23 #[.int .i64 v0, .int .i64 v1] rfl rfl ?_; intro ga hg w1 BKa hb; have GEa := bz HB hg; have ⟨NB5_a, NBa_5⟩ := nb BK5 hg; have ⟨NB3_a, NBa_3⟩ := nb BK3 hg; replace BK5 := bb BK5 hb; replace BK3 := bb BK3 hb; replace HB := bs HB hb; clear hb hg) | ((with_reducible refine gd 4 rfl ?_); refine bx_ 4 23 #[.int .i64 0, .int .i64 0] rfl rfl ?_; intro gr hg w2 BKr hb; have GEr := bz HB hg; have ⟨NB5_r, NBr_5⟩ := nb BK5 hg; have ⟨NB3_r, NBr_3⟩ := nb BK3 hg; have ⟨NBa_r, NBr_a⟩ := nb BKa hg; replace BK5 := bb BK5 hb; replace BK3 := bb BK3 hb; replace BKa := bb BKa hb; replace HB := bs HB hb; clear hb hg; have hz5 := X.k1 BK5; have hz3 := X.k2 BK3) | (go_at_call 30; refine (demand_volume_1.calls _ p0 p1 _ _ _ _ A1.out (tt GT)).mono ?_; rintro e w3 ⟨rfl, hb⟩; replace BKa := bb BKa hb; replace BKr := bb BKr hb; replace HB := bs HB hb; clear hb hz5 hz3 BK5 BK3) | ((with_reducible refine gd 6 rfl ?_); refine bx_ 6 23 #[.int .i64 0, .int .i64 0] rfl rfl ?_; intro gp hg w4 BKp hb; have GEp := bz HB hg; have ⟨NBa_p, NBp_a⟩ := nb BKa hg; have ⟨NBr_p, NBp_r⟩ := nb BKr hg; replace BKa := bb BKa hb; replace BKr := bb BKr hb; replace HB := bs HB hb; clear hb hg; have hzp := k2 BKp; have hza := k2 BKa; have hzr := k2 BKr; have hn1 := nn NBa_p; have hn2 := nn NBr_p) | (go_at_call 17; refine (frac_Div.calls _ v0 v1 c0 c1 _ _ _ _ A2.out (tt GT)).mono ?_; rintro e w5 ⟨rfl, hb⟩; replace BKr := bb BKr hb; replace HB := bs HB hb; clear hb hzp hza hzr; have hzr := k2 BKr))
    refine bodyPost_ret (results_ct rfl _ _ gr 23 #[.int .i64 r0, .int .i64 r1] (0, 0) _ rfl (br_ BKr) Tryz.underlying23 rfl (by kernel_rfl)) rfl ?_
    exact ⟨ae, bf HB⟩
  · rw [if_neg c4] at hr
    have c4b0 : (c2 == 0) = false := beq_eq_false_iff_ne.mpr c4
    have c4b1 : (c2 != 0) = true := bne_iff_ne.mpr c4
    clear c4
    simp only [Option.some.injEq, Prod.mk.injEq] at hr
    obtain ⟨rfl, rfl, rfl⟩ := hr
    go_enter Tryz.func34, Tryz.ntmps34
    go_wp2_with (first | ((with_reducible refine gd 3 rfl ?_); refine bx_ 3 23 #[.int .i64 v0, .int .i64 v1] rfl rfl ?_; intro ga hg w1 BKa hb; have GEa := bz HB hg; have ⟨NB5_a, NBa_5⟩ := nb BK5 hg; have ⟨NB3_a, NBa_3⟩ := nb BK3 hg; replace BK5 := bb BK5 hb; replace BK3 := bb BK3 hb; replace HB := bs HB hb; clear hb hg) | ((with_reducible refine gd 4 rfl ?_); refine bx_ 4 23 #[.int .i64 0, .int .i64 0] rfl rfl ?_; intro gr hg w2 BKr hb; have GEr := bz HB hg; have ⟨NB5_r, NBr_5⟩ := nb BK5 hg; have ⟨NB3_r, NBr_3⟩ := nb BK3 hg; have ⟨NBa_r, NBr_a⟩ := nb BKa hg; replace BK5 := bb BK5 hb; replace BK3 := bb BK3 hb; replace BKa := bb BKa hb; replace HB := bs HB hb; clear hb hg; have hz5 := X.k1 BK5; have hz3 := X.k2 BK3) | (go_at_call 30; refine (demand_volume_1.calls _ p0 p1 _ _ _ _ A1.out (tt GT)).mono ?_; rintro e w3 ⟨rfl, hb⟩; replace BKa := bb BKa hb; replace BKr := bb BKr hb; replace HB := bs HB hb; clear hb hz5 hz3 BK5 BK3) | ((with_reducible refine gd 6 rfl ?_); refine bx_ 6 23 #[.int .i64 0, .int .i64 0] rfl rfl ?_; intro gp hg w4 BKp hb; have GEp := bz HB hg; have ⟨NBr_p, NBp_r⟩ := nb BKr hg; replace BKr := bb BKr hb; replace HB := bs HB hb; clear hb hg; have hzp := k2 BKp; have hzr := k2 BKr; have hn2 := nn NBr_p))
    refine bodyPost_ret (results_ct rfl _ _ gr 23 #[.int .i64 0, .int .i64 0] (0, 0) _ rfl (br_ BKr) Tryz.underlying23 rfl (by kernel_rfl)) rfl ?_
    exact ⟨ae, bf HB⟩
theorem demand_volume.calls (k : Nat) (a0_0 : ByteArray) (a0_1 a0_2 a0_3 a0_4 a0_5 a0_6 a0_7 a0_8 a0_9 a0_10 a1_0 a1_1 : Int) (r1 r2 r3 : Int) (w : World) (h : demand_volume.f k a0_0 a0_1 a0_2 a0_3 a0_4 a0_5 a0_6 a0_7 a0_8 a0_9 a0_10 a1_0 a1_1 = some (r1, r2, r3)) (hT : TabOK w) :
  Calls Tryz.prog 14 #[.agg #[.string a0_0, .int .i64 a0_1, .int .i64 a0_2, .int .i64 a0_3, .int .i64 a0_4, .int .i64 a0_5, .int .i64 a0_6, .int .i64 a0_7, .int .i64 a0_8, .int .i64 a0_9, .int .i64 a0_10], .agg #[.int .i64 a1_0, .int .i64 a1_1]] w fun e w' => e = .returned (.agg #[.int .i64 r1, .int .i64 r2, .int .i64 r3]) ∧ Below w.heap.size w w' := by
 have GT := Aside0.mk hT
 clear hT
 have hu1 := Tryz.underlying65
 have hu2 := Tryz.underlying23
 have hu3 := Tryz.underlying48
 have hsf : ∀ (w : World) (a : Addr) (fn : Fn) (first cap : Array Value) (m : Mode), (store a (.func fn first cap) m).run Tryz.prog w = stored Tryz.prog w a (.func fn first cap) m := fun w a fn first cap m => run_store _ w a _ m rfl
 have hmf : ∀ (fn : Fn) (first cap : Array Value) (w : World), (Instr.makeFunc fn first cap).run Tryz.prog w = .ok (.func fn first cap) w := fun _ _ _ _ => rfl
 have HB := Aside0.mk (Below.refl w.heap.size w)
 have H : ((demand_volume_1.f k a0_3 a0_4).bind fun a => if a.2.2 = 0 then ((demand_volume_2.f k a.1 a.2.1 a0_0 a0_1 a0_2 a0_3 a0_4 a0_5 a0_6 a0_7 a0_8 a0_9 a0_10).bind fun b => if b.2.2 = 0 then ((demand_volume_1.f k a1_0 a1_1).bind fun c => if c.2.2 = 0 then frac_Div.f k b.1 b.2.1 c.1 c.2.1 else some (0, 0, c.2.2)) else some b) else some a) = some (r1, r2, r3) := h
 clear h
 replace H := bi_ H; obtain ⟨⟨x0, x1, x2⟩, A1, H⟩ := H
 (try dsimp only at H)
 by_cases c1 : x2 = 0
 ·subst c1
  rw [if_pos rfl] at H
  replace H := bi_ H; obtain ⟨⟨y0, y1, y2⟩, A2, H⟩ := H
  (try dsimp only at H)
  by_cases c2 : y2 = 0
  ·subst c2
   rw [if_pos rfl] at H
   replace H := bi_ H; obtain ⟨⟨z0, z1, z2⟩, A3, H⟩ := H
   (try dsimp only at H)
   have HZ := Aside0.mk H
   clear H
   go_enter Tryz.func14, Tryz.ntmps14
   go_wp2_with (first | ((with_reducible refine gd 2 rfl ?_); refine bx_ 2 48 #[.string a0_0, .int .i64 a0_1, .int .i64 a0_2, .int .i64 a0_3, .int .i64 a0_4, .int .i64 a0_5, .int .i64 a0_6, .int .i64 a0_7, .int .i64 a0_8, .int .i64 a0_9, .int .i64 a0_10] rfl rfl ?_; intro g2 hg w1 BK2 hb; have GE2 := bz HB hg; replace HB := bs HB hb; clear hb hg) | ((with_reducible refine gd 3 rfl ?_); refine bx_ 3 23 #[.int .i64 a1_0, .int .i64 a1_1] rfl rfl ?_; intro g3 hg w2 BK3 hb; have GE3 := bz HB hg; have ⟨NB2_3, NB3_2⟩ := nb BK2 hg; replace BK2 := bb BK2 hb; replace HB := bs HB hb; clear hb hg) | ((with_reducible refine gd 4 rfl ?_); refine bx_ 4 65 #[.int .i64 0, .int .i64 0, .int .i64 0] rfl rfl ?_; intro g4 hg w3 BK4 hb; have GE4 := bz HB hg; have ⟨NB2_4, NB4_2⟩ := nb BK2 hg; have ⟨NB3_4, NB4_3⟩ := nb BK3 hg; replace BK2 := bb BK2 hb; replace BK3 := bb BK3 hb; replace HB := bs HB hb; clear hb hg) | ((with_reducible refine gd 5 rfl ?_); refine bx_ 5 70 #[.nilFunc] rfl rfl ?_; intro g5 hg w4 BK5 hb; have GE5 := bz HB hg; have ⟨NB2_5, NB5_2⟩ := nb BK2 hg; have ⟨NB3_5, NB5_3⟩ := nb BK3 hg; have ⟨NB4_5, NB5_4⟩ := nb BK4 hg; replace BK2 := bb BK2 hb; replace BK3 := bb BK3 hb; replace BK4 := bb BK4 hb; replace HB := bs HB hb; clear hb hg; have hz5 := X.k1 BK5; have hz2 := X.k11 BK2; have hn1 := nn NB2_5) | (go_at_call 15; (with_reducible refine (demand_then_ok 30 Tryz.f30 #[] Tryz.func30 (by kernel_rfl) rfl a0_3 a0_4 x0 x1 0 _ ?do30).mono ?_); (case do30 => exact fun w1 hb1 => demand_volume_1.calls k a0_3 a0_4 x0 x1 0 w1 A1.out (GT.out.below (below_step (bf HB) hb1))); rintro e w5 ⟨rfl, hb⟩; replace BK2 := bb BK2 hb; replace BK3 := bb BK3 hb; replace BK4 := bb BK4 hb; replace BK5 := bp_ #[.func (.func 30) #[] #[]] BK5 hb; replace HB := bs HB hb; clear hb hz5 hz2 hn1) | (go_at_call 15; (with_reducible refine (demand_then_ok 32 Tryz.f32 #[.pointer (some ⟨g2, 0, none⟩)] Tryz.func32 (by kernel_rfl) rfl x0 x1 y0 y1 0 _ ?do32).mono ?_); (case do32 => exact fun w1 hb1 => (show Calls Tryz.prog 32 #[.agg #[.int .i64 x0, .int .i64 x1], .pointer (some ⟨g2, 0, none⟩)] w1 _ from demand_volume_2.calls k x0 x1 a0_0 a0_1 a0_2 a0_3 a0_4 a0_5 a0_6 a0_7 a0_8 a0_9 a0_10 y0 y1 0 g2 w1 (blk_below (bx BK2) hb1) A2.out (GT.out.below (below_step (bf HB) hb1)))); rintro e w7 ⟨rfl, hb⟩; replace BK3 := bb BK3 hb; replace BK4 := bb BK4 hb; replace BK5 := bb BK5 hb; replace HB := bs HB hb; clear hb BK2) | (go_at_call 15; (with_reducible refine (demand_then_ok 34 Tryz.f34 #[.pointer (some ⟨g5, 0, none⟩), .pointer (some ⟨g3, 0, none⟩)] Tryz.func34 (by kernel_rfl) rfl y0 y1 r1 r2 r3 _ ?do34).mono ?_); (case do34 => exact fun w1 hb1 => (show Calls Tryz.prog 34 #[.agg #[.int .i64 y0, .int .i64 y1], .pointer (some ⟨g5, 0, none⟩), .pointer (some ⟨g3, 0, none⟩)] w1 _ from demand_vol3 k y0 y1 a1_0 a1_1 z0 z1 z2 r1 r2 r3 g5 g3 w1 (blk_below (bx BK5) hb1) (blk_below (bx BK3) hb1) A3.out HZ.out (GT.out.below (below_step (bf HB) hb1)))); rintro e w8 ⟨rfl, hb⟩; replace BK4 := bb BK4 hb; replace HB := bs HB hb; clear hb; have hz4 := X.k3 BK4))
   refine bodyPost_ret (results_cell_row rfl _ _ g4 65 #[.int .i64 r1, .int .i64 r2, .int .i64 r3] (0, 0) _ rfl (br_ BK4) Tryz.underlying65 rfl (by kernel_rfl)) rfl ?_
   exact ⟨ae, bf HB⟩
  ·have C2 := Aside0.mk c2
   clear c2
   rw [if_neg C2.out] at H
   simp only [Option.some.injEq, Prod.mk.injEq] at H
   obtain ⟨rfl, rfl, rfl⟩ := H
   go_enter Tryz.func14, Tryz.ntmps14
   go_wp2_with (first | ((with_reducible refine gd 2 rfl ?_); refine bx_ 2 48 #[.string a0_0, .int .i64 a0_1, .int .i64 a0_2, .int .i64 a0_3, .int .i64 a0_4, .int .i64 a0_5, .int .i64 a0_6, .int .i64 a0_7, .int .i64 a0_8, .int .i64 a0_9, .int .i64 a0_10] rfl rfl ?_; intro g2 hg w1 BK2 hb; have GE2 := bz HB hg; replace HB := bs HB hb; clear hb hg) | ((with_reducible refine gd 3 rfl ?_); refine bx_ 3 23 #[.int .i64 a1_0, .int .i64 a1_1] rfl rfl ?_; intro g3 hg w2 BK3 hb; have GE3 := bz HB hg; have ⟨NB2_3, NB3_2⟩ := nb BK2 hg; replace BK2 := bb BK2 hb; replace HB := bs HB hb; clear hb hg) | ((with_reducible refine gd 4 rfl ?_); refine bx_ 4 65 #[.int .i64 0, .int .i64 0, .int .i64 0] rfl rfl ?_; intro g4 hg w3 BK4 hb; have GE4 := bz HB hg; have ⟨NB2_4, NB4_2⟩ := nb BK2 hg; have ⟨NB3_4, NB4_3⟩ := nb BK3 hg; replace BK2 := bb BK2 hb; replace BK3 := bb BK3 hb; replace HB := bs HB hb; clear hb hg) | ((with_reducible refine gd 5 rfl ?_); refine bx_ 5 70 #[.nilFunc] rfl rfl ?_; intro g5 hg w4 BK5 hb; have GE5 := bz HB hg; have ⟨NB2_5, NB5_2⟩ := nb BK2 hg; have ⟨NB3_5, NB5_3⟩ := nb BK3 hg; have ⟨NB4_5, NB5_4⟩ := nb BK4 hg; replace BK2 := bb BK2 hb; replace BK3 := bb BK3 hb; replace BK4 := bb BK4 hb; replace HB := bs HB hb; clear hb hg; have hz5 := X.k1 BK5; have hz2 := X.k11 BK2; have hn1 := nn NB2_5) | (go_at_call 15; (with_reducible refine (demand_then_ok 30 Tryz.f30 #[] Tryz.func30 (by kernel_rfl) rfl a0_3 a0_4 x0 x1 0 _ ?do30).mono ?_); (case do30 => exact fun w1 hb1 => demand_volume_1.calls k a0_3 a0_4 x0 x1 0 w1 A1.out (GT.out.below (below_step (bf HB) hb1))); rintro e w5 ⟨rfl, hb⟩; replace BK2 := bb BK2 hb; replace BK3 := bb BK3 hb; replace BK4 := bb BK4 hb; replace BK5 := bp_ #[.func (.func 30) #[] #[]] BK5 hb; replace HB := bs HB hb; clear hb hz5 hz2 hn1) | (go_at_call 15; (with_reducible refine (demand_then_ok 32 Tryz.f32 #[.pointer (some ⟨g2, 0, none⟩)] Tryz.func32 (by kernel_rfl) rfl x0 x1 y0 y1 y2 _ ?do32).mono ?_); (case do32 => exact fun w1 hb1 => (show Calls Tryz.prog 32 #[.agg #[.int .i64 x0, .int .i64 x1], .pointer (some ⟨g2, 0, none⟩)] w1 _ from demand_volume_2.calls k x0 x1 a0_0 a0_1 a0_2 a0_3 a0_4 a0_5 a0_6 a0_7 a0_8 a0_9 a0_10 y0 y1 y2 g2 w1 (blk_below (bx BK2) hb1) A2.out (GT.out.below (below_step (bf HB) hb1)))); rintro e w7 ⟨rfl, hb⟩; replace BK3 := bb BK3 hb; replace BK4 := bb BK4 hb; replace BK5 := bb BK5 hb; replace HB := bs HB hb; clear hb BK2) | (go_at_call 15; (with_reducible refine (demand_then_err _ y0 y1 y2 _ C2.out).mono ?_); rintro e w8 ⟨rfl, hb⟩; replace BK4 := bb BK4 hb; replace HB := bs HB hb; clear hb BK3 BK5; have hz4 := X.k3 BK4))
   refine bodyPost_ret (results_cell_row rfl _ _ g4 65 #[.int .i64 y0, .int .i64 y1, .int .i64 y2] (0, 0) _ rfl (br_ BK4) Tryz.underlying65 rfl (by kernel_rfl)) rfl ?_
   exact ⟨ae, bf HB⟩
 ·have C1 := Aside0.mk c1
  clear c1
  rw [if_neg C1.out] at H
  simp only [Option.some.injEq, Prod.mk.injEq] at H
  obtain ⟨rfl, rfl, rfl⟩ := H
  go_enter Tryz.func14, Tryz.ntmps14
  go_wp2_with (first | ((with_reducible refine gd 2 rfl ?_); refine bx_ 2 48 #[.string a0_0, .int .i64 a0_1, .int .i64 a0_2, .int .i64 a0_3, .int .i64 a0_4, .int .i64 a0_5, .int .i64 a0_6, .int .i64 a0_7, .int .i64 a0_8, .int .i64 a0_9, .int .i64 a0_10] rfl rfl ?_; intro g2 hg w1 BK2 hb; have GE2 := bz HB hg; replace HB := bs HB hb; clear hb hg) | ((with_reducible refine gd 3 rfl ?_); refine bx_ 3 23 #[.int .i64 a1_0, .int .i64 a1_1] rfl rfl ?_; intro g3 hg w2 BK3 hb; have GE3 := bz HB hg; have ⟨NB2_3, NB3_2⟩ := nb BK2 hg; replace BK2 := bb BK2 hb; replace HB := bs HB hb; clear hb hg) | ((with_reducible refine gd 4 rfl ?_); refine bx_ 4 65 #[.int .i64 0, .int .i64 0, .int .i64 0] rfl rfl ?_; intro g4 hg w3 BK4 hb; have GE4 := bz HB hg; have ⟨NB2_4, NB4_2⟩ := nb BK2 hg; have ⟨NB3_4, NB4_3⟩ := nb BK3 hg; replace BK2 := bb BK2 hb; replace BK3 := bb BK3 hb; replace HB := bs HB hb; clear hb hg) | ((with_reducible refine gd 5 rfl ?_); refine bx_ 5 70 #[.nilFunc] rfl rfl ?_; intro g5 hg w4 BK5 hb; have GE5 := bz HB hg; have ⟨NB2_5, NB5_2⟩ := nb BK2 hg; have ⟨NB3_5, NB5_3⟩ := nb BK3 hg; have ⟨NB4_5, NB5_4⟩ := nb BK4 hg; replace BK2 := bb BK2 hb; replace BK4 := bb BK4 hb; replace HB := bs HB hb; clear hb hg; have hz5 := X.k1 BK5; have hz2 := X.k11 BK2; have hn1 := nn NB2_5) | (go_at_call 15; (with_reducible refine (demand_then_ok 30 Tryz.f30 #[] Tryz.func30 (by kernel_rfl) rfl a0_3 a0_4 x0 x1 x2 _ ?do30).mono ?_); (case do30 => exact fun w1 hb1 => demand_volume_1.calls k a0_3 a0_4 x0 x1 x2 w1 A1.out (GT.out.below (below_step (bf HB) hb1))); rintro e w5 ⟨rfl, hb⟩; replace BK4 := bb BK4 hb; replace BK5 := bp_ #[.func (.func 30) #[] #[]] BK5 hb; replace HB := bs HB hb; clear hb hz5 hz2 hn1) | (go_at_call 15; (with_reducible refine (demand_then_err _ x0 x1 x2 _ C1.out).mono ?_); rintro e w7 ⟨rfl, hb⟩; replace BK4 := bb BK4 hb; replace HB := bs HB hb; clear hb; (try clear hz4); have hz4 := X.k3 BK4))
  refine bodyPost_ret (results_cell_row rfl _ _ g4 65 #[.int .i64 x0, .int .i64 x1, .int .i64 x2] (0, 0) _ rfl (br_ BK4) Tryz.underlying65 rfl (by kernel_rfl)) rfl ?_
  exact ⟨ae, bf HB⟩

end Go.Proofs.YtfhokgkpcphmlaaGreatDoor.X
