/- Walks: each '.calls' says that the Go function comes to what its Lean function tells. Conditions: as each theorem's head says. -/
import Derived.Test.YtjgnaccamakpdaaDoorXD
import Derived.Test.YtjgnaccamakpdaaDoorX0
import Derived.Test.YtjgnaccamakpdaaDoorX7
import Derived.Test.YtjgnaccamakpdaaDoorX8
namespace Go.Proofs.YtjgnaccamakpdaaDoor.X
open Go.RowKit Go.Proofs.YtjgnaccamakpdaaDoorW.PrintWords Go.Proofs.YtjgnaccamakpdaaDoorW.PrintLast Go.Proofs.YtjgnaccamakpdaaDoorW.PrintMore
attribute [local go_sem] max2_int min2_int max_two min_two max_three min_three max_four min_four   -- for this text's walks alone
set_option linter.unusedVariables false
set_option maxHeartbeats 8000000
set_option maxRecDepth 100000
set_option linter.unusedSimpArgs false

/-! ### frac_Div: function 23 -/
def frac_Div.T4 : Bool × List (List Nat × List Nat) := (true, [([], []), ([0], [0]), ([1], [1]), ([], []), ([3], [3]), ([4, 2], [4]), ([2, 5, 5], [2, 5]), ([], []), ([7], [7]), ([8, 6], [8]), ([], []), ([10], [10]), ([11, 9], [11]), ([9, 12, 12], [9, 12]), ([6, 13, 13], [6, 13]), ([14], [14]), ([14], [14]), ([15, 14, 0, 1, 2, 3, 4, 5, 6, 7, 8, 9, 10, 11, 12, 13, 14, 15, 16], [15]), ([16, 17, 0, 1, 2, 3, 4, 5, 6, 7, 8, 9, 10, 11, 12, 13, 14, 15, 16, 17], [16])])
def frac_Div.B4 : List Nat := [0, 1, 3, 0, 8, 31, 63, 0, 128, 511, 0, 1024, 4095, 8191, 16383, 32767, 32767, 131071, 262143]
theorem frac_Div.tab4 : rtab .any (opsOf Tryd.f23 4) = frac_Div.T4 := by kernel_rfl
theorem frac_Div.bits4 : waitsOk frac_Div.T4.2 frac_Div.B4 = true := by kernel_rfl
theorem frac_Div.calls (k : Nat) (a0_0 : Int) (a0_1 : Int) (a1_0 : Int) (a1_1 : Int) (r1 : Int) (r2 : Int) (r3 : Int) (w : World) (h : frac_Div.f k a0_0 a0_1 a1_0 a1_1 = some (r1, r2, r3)) (hT : TabOK w) :
    Calls Tryd.prog 23 #[.agg #[.int .i64 a0_0, .int .i64 a0_1], .agg #[.int .i64 a1_0, .int .i64 a1_1]] w fun e w' => e = .returned (.tuple #[.agg #[.int .i64 r1, .int .i64 r2], .int .i64 r3]) ∧ Below w.heap.size w w' := by
  have GT := Aside0.mk hT
  clear hT
  have hu23 := Tryd.underlying23
  have HB := Aside0.mk (Below.refl w.heap.size w)
  have H : ((frac_norm.f k a0_0 a0_1).bind fun bt806 => ((frac_norm.f k a1_0 a1_1).bind fun bt808 => (if bt808.1 = 0 then (some (0, 0, 3)) else ((frac_sized.f bt806.1).bind fun bt810 => ((frac_sized.f bt808.2).bind fun bt813 => ((frac_signed_times.f bt810.1 bt810.2.1 bt810.2.2 bt813.1 bt813.2.1 bt813.2.2).bind fun bt816 => ((frac_sized.f bt806.2).bind fun bt819 => ((frac_sized.f bt808.1).bind fun bt822 => ((frac_signed_times.f bt819.1 bt819.2.1 bt819.2.2 bt822.1 bt822.2.1 bt822.2.2).bind fun bt825 => ((frac_reduced.f k bt816.1 bt816.2.1 bt816.2.2 bt825.1 bt825.2.1 bt825.2.2).bind fun bt828 => (some (bt828.1, bt828.2.1, bt828.2.2)))))))))))) = some (r1, r2, r3) := h
  clear h
  replace H := bi_ H; obtain ⟨⟨t806, t807⟩, A3, H⟩ := H
  (try dsimp only at H)
  replace H := bi_ H; obtain ⟨⟨t808, t809⟩, A4, H⟩ := H
  (try dsimp only at H)
  by_cases c5 : t808 = 0
  · rw [if_pos c5] at H
    have c5b0 : (t808 == 0) = true := beq_iff_eq.mpr c5
    have c5b1 : (t808 != 0) = false := bne_eq_false_iff_eq.mpr c5
    clear c5
    simp only [Option.some.injEq, Prod.mk.injEq] at H
    obtain ⟨rfl, rfl, rfl⟩ := H
    go_enter Tryd.func23, Tryd.ntmps23
    try go_wp2_with (first | ((with_reducible refine gd 2 rfl ?_); refine bx_ 2 23 #[.int .i64 a0_0, .int .i64 a0_1] rfl rfl ?_; intro gb803 hg w6 BK803 hb; have GE803 := bz HB hg; replace HB := bs HB hb; clear hb hg) | ((with_reducible refine gd 3 rfl ?_); refine bx_ 3 23 #[.int .i64 a1_0, .int .i64 a1_1] rfl rfl ?_; intro gb804 hg w7 BK804 hb; have GE804 := bz HB hg; have ⟨NB803_804, NB804_803⟩ := nb BK803 hg; replace BK803 := bb BK803 hb; replace HB := bs HB hb; clear hb hg) | ((with_reducible refine gd 4 rfl ?_); refine bx_ 4 23 #[.int .i64 0, .int .i64 0] rfl rfl ?_; intro gb805 hg w8 BK805 hb; have GE805 := bz HB hg; have ⟨NB803_805, NB805_803⟩ := nb BK803 hg; have ⟨NB804_805, NB805_804⟩ := nb BK804 hg; replace BK803 := bb BK803 hb; replace BK804 := bb BK804 hb; replace HB := bs HB hb; clear hb hg))
    replace BK803 := Aside0.mk (blk_drew BK803.out)
    replace BK804 := Aside0.mk (blk_drew BK804.out)
    replace BK805 := Aside0.mk (blk_drew BK805.out)
    replace HB := Aside0.mk (below_drew1 HB.out)
    refine start_ (n := 6) (S := fun w' => c_ w' gb803 0 (.int .i64 a0_0) ∧ c_ w' gb803 1 (.int .i64 a0_1) ∧ c_ w' gb804 0 (.int .i64 a1_0) ∧ c_ w' gb804 1 (.int .i64 a1_1)) (ds := [4, 5]) (m_ 6 0) (by kernel_rfl) rfl rfl ⟨ct BK803 0, ct BK803 1, ct BK804 0, ct BK804 1⟩ (fun hHeld => ?_)
    generalize w8.drew = w9 at BK803 BK804 BK805 HB hHeld ⊢
    refine tk_ 0 (some 6) (m_ 6 1) rfl rfl (by kernel_rfl) hHeld ?_
    refine tk_ 2 (some 8) (m_ 6 5) rfl rfl (by kernel_rfl) hHeld ?_
    refine o1_ 1 (some 7) (m_ 6 7) rfl rfl (by kernel_rfl) (fun K hK => ?_)
    refine gs_ rfl Tryd.func56 (frac_norm.calls _ _ _ _ _ _ A3.out (tt GT)) ag ?_
    intro w10 hb
    replace BK803 := bb BK803 hb
    replace BK804 := bb BK804 hb
    replace BK805 := bb BK805 hb
    replace HB := bs HB hb
    (try clear hb)
    refine hK.out _ _ ⟨ct BK803 0, ct BK803 1, ct BK804 0, ct BK804 1⟩ (fun hHeld => ?_)
    clear hK K
    refine nr_ (some 7) ?_
    refine o1_ 3 (some 9) (m_ 6 15) rfl rfl (by kernel_rfl) (fun K hK => ?_)
    refine gs_ rfl Tryd.func56 (frac_norm.calls _ _ _ _ _ _ A4.out (tt GT)) ag ?_
    intro w11 hb
    replace BK803 := bb BK803 hb
    replace BK804 := bb BK804 hb
    replace BK805 := bb BK805 hb
    replace HB := bs HB hb
    (try clear hb)
    refine hK.out _ _ ⟨ct BK803 0, ct BK803 1, ct BK804 0, ct BK804 1⟩ (fun hHeld => ?_)
    clear hK K
    refine nr_ (some 9) ?_
    refine last_ (i := 4) (N := none) (m_ 6 31) rfl rfl (by kernel_rfl) (by decide) (fun K hK => ?_)
    have hs12 : c_ w11 gb803 0 (.int .i64 a0_0) := ct BK803 0
    have hfs12 := blk_frozen BK803.out 0
    have hns12_1 := NB804_803.out
    have hns12_2 := NB805_803.out
    have hms12_1 := NB803_804.out
    have hms12_2 := NB803_805.out
    have hs13 : c_ w11 gb803 1 (.int .i64 a0_1) := ct BK803 1
    have hfs13 := blk_frozen BK803.out 1
    have hns13_1 := NB804_803.out
    have hns13_2 := NB805_803.out
    have hms13_1 := NB803_804.out
    have hms13_2 := NB803_805.out
    refine skip_ (w1 := ?_) (by rfl) rfl ?_ ?_
    rotate_left
    · go_simp
      rfl
    refine hK.out _ _ ?_
    clear hK K
    refine last_ (i := 5) (N := none) (m_ 6 63) rfl rfl (by kernel_rfl) (by decide) (fun K hK => ?_)
    have hs14 : c_ w11 gb804 0 (.int .i64 a1_0) := ct BK804 0
    have hfs14 := blk_frozen BK804.out 0
    have hns14_0 := NB803_804.out
    have hns14_2 := NB805_804.out
    have hms14_0 := NB804_803.out
    have hms14_2 := NB804_805.out
    have hs15 : c_ w11 gb804 1 (.int .i64 a1_1) := ct BK804 1
    have hfs15 := blk_frozen BK804.out 1
    have hns15_0 := NB803_804.out
    have hns15_2 := NB805_804.out
    have hms15_0 := NB804_803.out
    have hms15_2 := NB804_805.out
    refine skip_ (w1 := ?_) (by rfl) rfl ?_ ?_
    rotate_left
    · go_simp
      rfl
    refine hK.out _ _ ?_
    clear hK K
    refine done_ (by kernel_rfl) ?_
    have hnb16 := nn NB804_803
    have hnb17 := nn NB804_805
    have hcz18 := k2 BK804
    have hnb19 := nn NB805_803
    have hcz20 := k2 BK805
    try go_wp2
    refine bodyPost_ret (results_ct rfl _ _ gb805 23 #[.int .i64 0, .int .i64 0] (0, 0) _ rfl (br_ BK805) Tryd.underlying23 rfl (by kernel_rfl)) rfl ?_
    exact ⟨ae, bf HB⟩
  · rw [if_neg c5] at H
    have c5b0 : (t808 == 0) = false := beq_eq_false_iff_ne.mpr c5
    have c5b1 : (t808 != 0) = true := bne_iff_ne.mpr c5
    replace H := bi_ H; obtain ⟨⟨t810, t811, t812⟩, A21, H⟩ := H
    (try dsimp only at H)
    replace H := bi_ H; obtain ⟨⟨t813, t814, t815⟩, A22, H⟩ := H
    (try dsimp only at H)
    replace H := bi_ H; obtain ⟨⟨t816, t817, t818⟩, A23, H⟩ := H
    (try dsimp only at H)
    replace H := bi_ H; obtain ⟨⟨t819, t820, t821⟩, A24, H⟩ := H
    (try dsimp only at H)
    replace H := bi_ H; obtain ⟨⟨t822, t823, t824⟩, A25, H⟩ := H
    (try dsimp only at H)
    replace H := bi_ H; obtain ⟨⟨t825, t826, t827⟩, A26, H⟩ := H
    (try dsimp only at H)
    replace H := bi_ H; obtain ⟨⟨t828, t829, t830⟩, A27, H⟩ := H
    (try dsimp only at H)
    simp only [Option.some.injEq, Prod.mk.injEq] at H
    obtain ⟨rfl, rfl, rfl⟩ := H
    go_enter Tryd.func23, Tryd.ntmps23
    try go_wp2_with (first | ((with_reducible refine gd 2 rfl ?_); refine bx_ 2 23 #[.int .i64 a0_0, .int .i64 a0_1] rfl rfl ?_; intro gb803 hg w28 BK803 hb; have GE803 := bz HB hg; replace HB := bs HB hb; clear hb hg) | ((with_reducible refine gd 3 rfl ?_); refine bx_ 3 23 #[.int .i64 a1_0, .int .i64 a1_1] rfl rfl ?_; intro gb804 hg w29 BK804 hb; have GE804 := bz HB hg; have ⟨NB803_804, NB804_803⟩ := nb BK803 hg; replace BK803 := bb BK803 hb; replace HB := bs HB hb; clear hb hg) | ((with_reducible refine gd 4 rfl ?_); refine bx_ 4 23 #[.int .i64 0, .int .i64 0] rfl rfl ?_; intro gb805 hg w30 BK805 hb; have GE805 := bz HB hg; have ⟨NB803_805, NB805_803⟩ := nb BK803 hg; have ⟨NB804_805, NB805_804⟩ := nb BK804 hg; replace BK803 := bb BK803 hb; replace BK804 := bb BK804 hb; replace HB := bs HB hb; clear hb hg))
    replace BK803 := Aside0.mk (blk_drew BK803.out)
    replace BK804 := Aside0.mk (blk_drew BK804.out)
    replace BK805 := Aside0.mk (blk_drew BK805.out)
    replace HB := Aside0.mk (below_drew1 HB.out)
    refine start_ (n := 6) (S := fun w' => c_ w' gb803 0 (.int .i64 a0_0) ∧ c_ w' gb803 1 (.int .i64 a0_1) ∧ c_ w' gb804 0 (.int .i64 a1_0) ∧ c_ w' gb804 1 (.int .i64 a1_1)) (ds := [4, 5]) (m_ 6 0) (by kernel_rfl) rfl rfl ⟨ct BK803 0, ct BK803 1, ct BK804 0, ct BK804 1⟩ (fun hHeld => ?_)
    generalize w30.drew = w31 at BK803 BK804 BK805 HB hHeld ⊢
    refine tk_ 0 (some 6) (m_ 6 1) rfl rfl (by kernel_rfl) hHeld ?_
    refine tk_ 2 (some 8) (m_ 6 5) rfl rfl (by kernel_rfl) hHeld ?_
    refine o1_ 1 (some 7) (m_ 6 7) rfl rfl (by kernel_rfl) (fun K hK => ?_)
    refine gs_ rfl Tryd.func56 (frac_norm.calls _ _ _ _ _ _ A3.out (tt GT)) ag ?_
    intro w32 hb
    replace BK803 := bb BK803 hb
    replace BK804 := bb BK804 hb
    replace BK805 := bb BK805 hb
    replace HB := bs HB hb
    (try clear hb)
    refine hK.out _ _ ⟨ct BK803 0, ct BK803 1, ct BK804 0, ct BK804 1⟩ (fun hHeld => ?_)
    clear hK K
    refine nr_ (some 7) ?_
    refine o1_ 3 (some 9) (m_ 6 15) rfl rfl (by kernel_rfl) (fun K hK => ?_)
    refine gs_ rfl Tryd.func56 (frac_norm.calls _ _ _ _ _ _ A4.out (tt GT)) ag ?_
    intro w33 hb
    replace BK803 := bb BK803 hb
    replace BK804 := bb BK804 hb
    replace BK805 := bb BK805 hb
    replace HB := bs HB hb
    (try clear hb)
    refine hK.out _ _ ⟨ct BK803 0, ct BK803 1, ct BK804 0, ct BK804 1⟩ (fun hHeld => ?_)
    clear hK K
    refine nr_ (some 9) ?_
    refine last_ (i := 4) (N := none) (m_ 6 31) rfl rfl (by kernel_rfl) (by decide) (fun K hK => ?_)
    have hs34 : c_ w33 gb803 0 (.int .i64 a0_0) := ct BK803 0
    have hfs34 := blk_frozen BK803.out 0
    have hns34_1 := NB804_803.out
    have hns34_2 := NB805_803.out
    have hms34_1 := NB803_804.out
    have hms34_2 := NB803_805.out
    have hs35 : c_ w33 gb803 1 (.int .i64 a0_1) := ct BK803 1
    have hfs35 := blk_frozen BK803.out 1
    have hns35_1 := NB804_803.out
    have hns35_2 := NB805_803.out
    have hms35_1 := NB803_804.out
    have hms35_2 := NB803_805.out
    refine skip_ (w1 := ?_) (by rfl) rfl ?_ ?_
    rotate_left
    · go_simp
      rfl
    refine hK.out _ _ ?_
    clear hK K
    refine last_ (i := 5) (N := none) (m_ 6 63) rfl rfl (by kernel_rfl) (by decide) (fun K hK => ?_)
    have hs36 : c_ w33 gb804 0 (.int .i64 a1_0) := ct BK804 0
    have hfs36 := blk_frozen BK804.out 0
    have hns36_0 := NB803_804.out
    have hns36_2 := NB805_804.out
    have hms36_0 := NB804_803.out
    have hms36_2 := NB804_805.out
    have hs37 : c_ w33 gb804 1 (.int .i64 a1_1) := ct BK804 1
    have hfs37 := blk_frozen BK804.out 1
    have hns37_0 := NB803_804.out
    have hns37_2 := NB805_804.out
    have hms37_0 := NB804_803.out
    have hms37_2 := NB804_805.out
    refine skip_ (w1 := ?_) (by rfl) rfl ?_ ?_
    rotate_left
    · go_simp
      rfl
    refine hK.out _ _ ?_
    clear hK K
    refine done_ (by kernel_rfl) ?_
    have hnb38 := nn NB804_803
    have hnb39 := nn NB804_805
    have hcz40 := k2 BK804
    try go_wp2
    have n0_ : Aside0 (((((w33.setCell ⟨gb803, 0, none⟩ (.int .i64 t806)).setCell ⟨gb803, 1, none⟩ (.int .i64 t807)).setCell ⟨gb804, 0, none⟩ (.int .i64 t808)).setCell ⟨gb804, 1, none⟩ (.int .i64 t809)).heap[gb803]? = some (.cells #[.int .i64 t806, .int .i64 t807] 23 (0, 0))) := bq_ BK803
    have n1_ : Aside0 (((((w33.setCell ⟨gb803, 0, none⟩ (.int .i64 t806)).setCell ⟨gb803, 1, none⟩ (.int .i64 t807)).setCell ⟨gb804, 0, none⟩ (.int .i64 t808)).setCell ⟨gb804, 1, none⟩ (.int .i64 t809)).heap[gb804]? = some (.cells #[.int .i64 t808, .int .i64 t809] 23 (0, 0))) := bq_ BK804
    have n2_ : Aside0 (((((w33.setCell ⟨gb803, 0, none⟩ (.int .i64 t806)).setCell ⟨gb803, 1, none⟩ (.int .i64 t807)).setCell ⟨gb804, 0, none⟩ (.int .i64 t808)).setCell ⟨gb804, 1, none⟩ (.int .i64 t809)).heap[gb805]? = some (.cells #[.int .i64 0, .int .i64 0] 23 (0, 0))) := bu_ BK805
    have n3_ : Aside0 (Below w.heap.size w ((((w33.setCell ⟨gb803, 0, none⟩ (.int .i64 t806)).setCell ⟨gb803, 1, none⟩ (.int .i64 t807)).setCell ⟨gb804, 0, none⟩ (.int .i64 t808)).setCell ⟨gb804, 1, none⟩ (.int .i64 t809))) := ⟨bf HB⟩
    (try clear BK803); (try clear BK804); (try clear BK805); (try clear HB)
    generalize ((((w33.setCell ⟨gb803, 0, none⟩ (.int .i64 t806)).setCell ⟨gb803, 1, none⟩ (.int .i64 t807)).setCell ⟨gb804, 0, none⟩ (.int .i64 t808)).setCell ⟨gb804, 1, none⟩ (.int .i64 t809)) = w41 at n0_ n1_ n2_ n3_ ⊢
    have BK803 := n0_
    have BK804 := n1_
    have BK805 := n2_
    have HB := n3_
    clear n0_ n1_ n2_ n3_
    replace BK803 := Aside0.mk (blk_drew BK803.out)
    replace BK804 := Aside0.mk (blk_drew BK804.out)
    replace BK805 := Aside0.mk (blk_drew BK805.out)
    replace HB := Aside0.mk (below_drew1 HB.out)
    refine start_ (n := 19) (S := fun w' => c_ w' gb803 0 (.int .i64 t806) ∧ c_ w' gb803 1 (.int .i64 t807) ∧ c_ w' gb804 0 (.int .i64 t808) ∧ c_ w' gb804 1 (.int .i64 t809)) (ds := []) (m_ 19 0) (by kernel_rfl) rfl rfl ⟨ct BK803 0, ct BK803 1, ct BK804 0, ct BK804 1⟩ (fun hHeld => ?_); refine with_tabW frac_Div.tab4 frac_Div.bits4 (fun HT_ HW_ => ?_)
    generalize w41.drew = w42 at BK803 BK804 BK805 HB hHeld ⊢
    refine pu_ 0 (some 14) (m_ 19 1) rfl rfl (ao HT_) ?_
    refine pu_ 3 (some 17) (m_ 19 9) rfl rfl (ao HT_) ?_
    refine pu_ 7 (some 21) (m_ 19 137) rfl rfl (ao HT_) ?_
    refine pu_ 10 (some 24) (m_ 19 1161) rfl rfl (ao HT_) ?_
    refine tk_ 1 (some 15) (m_ 19 1163) rfl rfl (tw HT_ HW_) hHeld ?_
    refine tk_ 4 (some 18) (m_ 19 1179) rfl rfl (tw HT_ HW_) hHeld ?_
    refine tk_ 8 (some 22) (m_ 19 1435) rfl rfl (tw HT_ HW_) hHeld ?_
    refine tk_ 11 (some 25) (m_ 19 3483) rfl rfl (tw HT_ HW_) hHeld ?_
    refine o1_ 2 (some 16) (m_ 19 3487) rfl rfl (oo HT_) (fun K hK => ?_)
    refine gs_ rfl Tryd.func52 (frac_sized.calls _ _ _ _ _ A21.out) ag ?_
    intro w43 hb
    replace BK803 := bb BK803 hb
    replace BK804 := bb BK804 hb
    replace BK805 := bb BK805 hb
    replace HB := bs HB hb
    (try clear hb)
    refine hK.out _ _ ⟨ct BK803 0, ct BK803 1, ct BK804 0, ct BK804 1⟩ (fun hHeld => ?_)
    clear hK K
    refine nr_ (some 16) ?_
    refine o1_ 5 (some 19) (m_ 19 3519) rfl rfl (oo HT_) (fun K hK => ?_)
    refine gs_ rfl Tryd.func52 (frac_sized.calls _ _ _ _ _ A22.out) ag ?_
    intro w44 hb
    replace BK803 := bb BK803 hb
    replace BK804 := bb BK804 hb
    replace BK805 := bb BK805 hb
    replace HB := bs HB hb
    (try clear hb)
    refine hK.out _ _ ⟨ct BK803 0, ct BK803 1, ct BK804 0, ct BK804 1⟩ (fun hHeld => ?_)
    clear hK K
    refine nr_ (some 19) ?_
    refine o1_ 6 (some 20) (m_ 19 3583) rfl rfl (oo HT_) (fun K hK => ?_)
    refine gs_ rfl Tryd.func57 (frac_signed_times.calls _ _ _ _ _ _ _ _ _ _ A23.out) ag ?_
    intro w45 hb
    replace BK803 := bb BK803 hb
    replace BK804 := bb BK804 hb
    replace BK805 := bb BK805 hb
    replace HB := bs HB hb
    (try clear hb)
    refine hK.out _ _ ⟨ct BK803 0, ct BK803 1, ct BK804 0, ct BK804 1⟩ (fun hHeld => ?_)
    clear hK K
    refine nr_ (some 20) ?_
    refine o1_ 9 (some 23) (m_ 19 4095) rfl rfl (oo HT_) (fun K hK => ?_)
    refine gs_ rfl Tryd.func52 (frac_sized.calls _ _ _ _ _ A24.out) ag ?_
    intro w46 hb
    replace BK803 := bb BK803 hb
    replace BK804 := bb BK804 hb
    replace BK805 := bb BK805 hb
    replace HB := bs HB hb
    (try clear hb)
    refine hK.out _ _ ⟨ct BK803 0, ct BK803 1, ct BK804 0, ct BK804 1⟩ (fun hHeld => ?_)
    clear hK K
    refine nr_ (some 23) ?_
    refine o1_ 12 (some 26) (m_ 19 8191) rfl rfl (oo HT_) (fun K hK => ?_)
    refine gs_ rfl Tryd.func52 (frac_sized.calls _ _ _ _ _ A25.out) ag ?_
    intro w47 hb
    replace BK803 := bb BK803 hb
    replace BK804 := bb BK804 hb
    replace BK805 := bb BK805 hb
    replace HB := bs HB hb
    (try clear hb)
    refine hK.out _ _ ⟨ct BK803 0, ct BK803 1, ct BK804 0, ct BK804 1⟩ (fun hHeld => ?_)
    clear hK K
    refine nr_ (some 26) ?_
    refine o1_ 13 (some 27) (m_ 19 16383) rfl rfl (oo HT_) (fun K hK => ?_)
    refine gs_ rfl Tryd.func57 (frac_signed_times.calls _ _ _ _ _ _ _ _ _ _ A26.out) ag ?_
    intro w48 hb
    replace BK803 := bb BK803 hb
    replace BK804 := bb BK804 hb
    replace BK805 := bb BK805 hb
    replace HB := bs HB hb
    (try clear hb)
    refine hK.out _ _ ⟨ct BK803 0, ct BK803 1, ct BK804 0, ct BK804 1⟩ (fun hHeld => ?_)
    clear hK K
    refine nr_ (some 27) ?_
    refine o1_ 14 (some 28) (m_ 19 32767) rfl rfl (oo HT_) (fun K hK => ?_)
    refine gs_ rfl Tryd.func51 (frac_reduced.calls _ _ _ _ _ _ _ _ _ _ _ A27.out (tt GT)) ag ?_
    intro w49 hb
    replace BK803 := bb BK803 hb
    replace BK804 := bb BK804 hb
    replace BK805 := bb BK805 hb
    replace HB := bs HB hb
    (try clear hb)
    refine hK.out _ _ ⟨ct BK803 0, ct BK803 1, ct BK804 0, ct BK804 1⟩ (fun hHeld => ?_)
    clear hK K
    refine nr_ (some 28) ?_
    refine pu_ 15 (some 29) (m_ 19 65535) rfl rfl (ao HT_) ?_
    refine pu_ 16 (some 30) (m_ 19 131071) rfl rfl (ao HT_) ?_
    refine o1_ 17 (none) (m_ 19 262143) rfl rfl (oo HT_) (fun K hK => ?_)
    have hs50 : c_ w49 gb805 0 (.int .i64 0) := ct BK805 0
    have hfs50 := blk_frozen BK805.out 0
    have hns50_0 := NB803_805.out
    have hns50_1 := NB804_805.out
    have hms50_0 := NB805_803.out
    have hms50_1 := NB805_804.out
    have hs51 : c_ w49 gb805 1 (.int .i64 0) := ct BK805 1
    have hfs51 := blk_frozen BK805.out 1
    have hns51_0 := NB803_805.out
    have hns51_1 := NB804_805.out
    have hms51_0 := NB805_803.out
    have hms51_1 := NB805_804.out
    refine skip_ (w1 := ?_) (by rfl) rfl ?_ ?_
    rotate_left
    · go_simp
      rfl
    refine hK.out _ _ ⟨((cell_far (p := ⟨gb805, _, none⟩) NB803_805.out _).trans (((cell_far (p := ⟨gb805, _, none⟩) NB803_805.out _).trans (hHeld.1)))), ((cell_far (p := ⟨gb805, _, none⟩) NB803_805.out _).trans (((cell_far (p := ⟨gb805, _, none⟩) NB803_805.out _).trans (hHeld.2.1)))), ((cell_far (p := ⟨gb805, _, none⟩) NB804_805.out _).trans (((cell_far (p := ⟨gb805, _, none⟩) NB804_805.out _).trans (hHeld.2.2.1)))), ((cell_far (p := ⟨gb805, _, none⟩) NB804_805.out _).trans (((cell_far (p := ⟨gb805, _, none⟩) NB804_805.out _).trans (hHeld.2.2.2))))⟩ (fun hHeld => ?_)
    clear hK K
    refine pu_ 18 (some 5) (m_ 19 524287) rfl rfl (ao HT_) ?_
    refine done_ (done_of HT_.out (by kernel_rfl)) ?_
    try go_wp2
    refine bodyPost_ret (results_ct rfl _ _ gb805 23 #[.int .i64 t828, .int .i64 t829] (0, 0) _ rfl (br_ BK805) Tryd.underlying23 rfl (by kernel_rfl)) rfl ?_
    exact ⟨ae, bf HB⟩

end Go.Proofs.YtjgnaccamakpdaaDoor.X
