/- Walks: each '.calls' says that the Go function comes to what its Lean function tells. Conditions: as each theorem's head says. -/
import Derived.Test.YtnocpmngpekceaaDoorXD
import Derived.Test.YtnocpmngpekceaaDoorX0
import Derived.Test.YtnocpmngpekceaaDoorX12
import Derived.Test.YtnocpmngpekceaaDoorX13
namespace Go.Proofs.YtnocpmngpekceaaDoor.X
open Go.RowKit Go.Proofs.YtnocpmngpekceaaDoorW.PrintWords Go.Proofs.YtnocpmngpekceaaDoorW.PrintLast Go.Proofs.YtnocpmngpekceaaDoorW.PrintMore
attribute [local go_sem] max2_int min2_int max_two min_two max_three min_three max_four min_four   -- for this text's walks alone
set_option linter.unusedVariables false
set_option maxHeartbeats 8000000
set_option maxRecDepth 100000
set_option linter.unusedSimpArgs false

/-! ### frac_reduced: function 69 -/
def frac_reduced.T2 : Bool × List (List Nat × List Nat) := (true, [([], []), ([0], [0]), ([], []), ([1, 2], [1, 2]), ([], []), ([4], [4]), ([], []), ([5, 6, 3], [5, 6]), ([0, 1, 2, 3], []), ([8, 3, 7, 0, 1, 2, 3], [3, 8]), ([0, 1, 2, 3, 4, 5, 6, 7, 8, 9], []), ([10, 7, 9, 0, 1, 2, 3, 4, 5, 6, 7, 8, 9], [7, 10])])
def frac_reduced.B2 : List Nat := [0, 1, 0, 7, 0, 16, 0, 127, 15, 511, 1023, 2047]
theorem frac_reduced.tab2 : rtab .any (opsOf Tryd.f69 2) = frac_reduced.T2 := by kernel_rfl
theorem frac_reduced.bits2 : waitsOk frac_reduced.T2.2 frac_reduced.B2 = true := by kernel_rfl
theorem frac_reduced.calls (k : Nat) (a0_0 : Bool) (a0_1 : Int) (a0_2 : Int) (a1_0 : Bool) (a1_1 : Int) (a1_2 : Int) (r1 : Int) (r2 : Int) (r3 : Int) (w : World) (h : frac_reduced.f k a0_0 a0_1 a0_2 a1_0 a1_1 a1_2 = some (r1, r2, r3)) (hT : TabOK w) :
    Calls Tryd.prog 69 #[.agg #[.bool a0_0, .int .u64 a0_1, .int .u64 a0_2], .agg #[.bool a1_0, .int .u64 a1_1, .int .u64 a1_2]] w fun e w' => e = .returned (.tuple #[.agg #[.int .i64 r1, .int .i64 r2], .int .i64 r3]) ∧ Below w.heap.size w w' := by
  have GT := Aside0.mk hT
  clear hT
  have hu104 := Tryd.underlying104
  have hu23 := Tryd.underlying23
  have hu102 := Tryd.underlying102
  have HB := Aside0.mk (Below.refl w.heap.size w)
  have H : ((frac_gcd.f k a0_1 a0_2 a1_1 a1_2).bind fun bt352 => ((frac_wide_over.f k a0_1 a0_2 bt352.1 bt352.2).bind fun bt355 => ((frac_wide_over.f k a1_1 a1_2 bt352.1 bt352.2).bind fun bt357 => ((frac_signed_whole.f (a0_0 != a1_0) bt355.1 bt355.2).bind fun bt359 => ((frac_signed_whole.f false bt357.1 bt357.2).bind fun bt361 => (if bt359.2 = true then (if bt361.2 = true then (some (bt359.1, bt361.1, 0)) else (some (0, 0, 2))) else (some (0, 0, 2)))))))) = some (r1, r2, r3) := h
  clear h
  replace H := bi_ H; obtain ⟨⟨t352, t353⟩, A3, H⟩ := H
  (try dsimp only at H)
  replace H := bi_ H; obtain ⟨⟨t355, t356⟩, A4, H⟩ := H
  (try dsimp only at H)
  replace H := bi_ H; obtain ⟨⟨t357, t358⟩, A5, H⟩ := H
  (try dsimp only at H)
  replace H := bi_ H; obtain ⟨⟨t359, t360⟩, A6, H⟩ := H
  (try dsimp only at H)
  replace H := bi_ H; obtain ⟨⟨t361, t362⟩, A7, H⟩ := H
  (try dsimp only at H)
  by_cases c8 : t360 = true
  · subst c8
    have H1 : (if t362 = true then (some (t359, t361, 0)) else (some (0, 0, 2))) = some (r1, r2, r3) := by rw [if_pos rfl] at H; exact H
    clear H
    have H := H1
    clear H1
    by_cases c9 : t362 = true
    · subst c9
      have H1 : (some (t359, t361, 0)) = some (r1, r2, r3) := by rw [if_pos rfl] at H; exact H
      clear H
      have H := H1
      clear H1
      simp only [Option.some.injEq, Prod.mk.injEq] at H
      obtain ⟨rfl, rfl, rfl⟩ := H
      go_enter Tryd.func69, Tryd.ntmps69
      try go_wp2_with (first | ((with_reducible refine gd 2 rfl ?_); refine bx_ 2 104 #[.bool a0_0, .int .u64 a0_1, .int .u64 a0_2] rfl rfl ?_; intro gb349 hg w10 BK349 hb; have GE349 := bz HB hg; replace HB := bs HB hb; clear hb hg) | ((with_reducible refine gd 3 rfl ?_); refine bx_ 3 104 #[.bool a1_0, .int .u64 a1_1, .int .u64 a1_2] rfl rfl ?_; intro gb350 hg w11 BK350 hb; have GE350 := bz HB hg; have ⟨NB349_350, NB350_349⟩ := nb BK349 hg; replace BK349 := bb BK349 hb; replace HB := bs HB hb; clear hb hg) | ((with_reducible refine gd 4 rfl ?_); refine bx_ 4 23 #[.int .i64 0, .int .i64 0] rfl rfl ?_; intro gb351 hg w12 BK351 hb; have GE351 := bz HB hg; have ⟨NB349_351, NB351_349⟩ := nb BK349 hg; have ⟨NB350_351, NB351_350⟩ := nb BK350 hg; replace BK349 := bb BK349 hb; replace BK350 := bb BK350 hb; replace HB := bs HB hb; clear hb hg; have hnb13 := nn NB349_350; have hnb14 := nn NB349_351; have hcz15 := X.k3 BK349; have hnb16 := nn NB350_351; have hcz17 := X.k3 BK350) | ((with_reducible refine gc 81 rfl ?_); refine gm_ (some 15) rfl rfl Tryd.func81 (frac_gcd.calls _ _ _ _ _ _ _ _ A3.out (tt GT)) ag ?_; intro w18 hb; replace BK349 := bb BK349 hb; replace BK350 := bb BK350 hb; replace BK351 := bb BK351 hb; replace HB := bs HB hb; (try clear hb)) | ((with_reducible refine gd 6 rfl ?_); refine bx_ 6 102 #[.int .u64 0, .int .u64 0] rfl rfl ?_; intro gb354 hg w19 BK354 hb; have GE354 := bz HB hg; have ⟨NB349_354, NB354_349⟩ := nb BK349 hg; have ⟨NB350_354, NB354_350⟩ := nb BK350 hg; have ⟨NB351_354, NB354_351⟩ := nb BK351 hg; replace BK349 := bb BK349 hb; replace BK350 := bb BK350 hb; replace BK351 := bb BK351 hb; replace HB := bs HB hb; clear hb hg; have hnb20 := nn NB354_349; have hnb21 := nn NB354_350; have hnb22 := nn NB354_351; have hcz23 := X.k2 BK354))
      have n0_ : Aside0 (((w19.setCell ⟨gb354, 0, none⟩ (.int .u64 t352)).setCell ⟨gb354, 1, none⟩ (.int .u64 t353)).heap[gb349]? = some (.cells #[.bool a0_0, .int .u64 a0_1, .int .u64 a0_2] 104 (0, 0))) := bu_ BK349
      have n1_ : Aside0 (((w19.setCell ⟨gb354, 0, none⟩ (.int .u64 t352)).setCell ⟨gb354, 1, none⟩ (.int .u64 t353)).heap[gb350]? = some (.cells #[.bool a1_0, .int .u64 a1_1, .int .u64 a1_2] 104 (0, 0))) := bu_ BK350
      have n2_ : Aside0 (((w19.setCell ⟨gb354, 0, none⟩ (.int .u64 t352)).setCell ⟨gb354, 1, none⟩ (.int .u64 t353)).heap[gb351]? = some (.cells #[.int .i64 0, .int .i64 0] 23 (0, 0))) := bu_ BK351
      have n3_ : Aside0 (((w19.setCell ⟨gb354, 0, none⟩ (.int .u64 t352)).setCell ⟨gb354, 1, none⟩ (.int .u64 t353)).heap[gb354]? = some (.cells #[.int .u64 t352, .int .u64 t353] 102 (0, 0))) := bq_ BK354
      have n4_ : Aside0 (Below w.heap.size w ((w19.setCell ⟨gb354, 0, none⟩ (.int .u64 t352)).setCell ⟨gb354, 1, none⟩ (.int .u64 t353))) := ⟨bf HB⟩
      (try clear BK349); (try clear BK350); (try clear BK351); (try clear BK354); (try clear HB)
      generalize ((w19.setCell ⟨gb354, 0, none⟩ (.int .u64 t352)).setCell ⟨gb354, 1, none⟩ (.int .u64 t353)) = w24 at n0_ n1_ n2_ n3_ n4_ ⊢
      have BK349 := n0_
      have BK350 := n1_
      have BK351 := n2_
      have BK354 := n3_
      have HB := n4_
      clear n0_ n1_ n2_ n3_ n4_
      replace BK349 := Aside0.mk (blk_drew BK349.out)
      replace BK350 := Aside0.mk (blk_drew BK350.out)
      replace BK351 := Aside0.mk (blk_drew BK351.out)
      replace BK354 := Aside0.mk (blk_drew BK354.out)
      replace HB := Aside0.mk (below_drew1 HB.out)
      refine start_ (n := 12) (S := fun w' => c_ w' gb349 0 (.bool a0_0) ∧ c_ w' gb349 1 (.int .u64 a0_1) ∧ c_ w' gb349 2 (.int .u64 a0_2) ∧ c_ w' gb354 0 (.int .u64 t352) ∧ c_ w' gb354 1 (.int .u64 t353) ∧ c_ w' gb350 0 (.bool a1_0) ∧ c_ w' gb350 1 (.int .u64 a1_1) ∧ c_ w' gb350 2 (.int .u64 a1_2)) (ds := [9, 11]) (m_ 12 0) (by kernel_rfl) rfl rfl ⟨ct BK349 0, ct BK349 1, ct BK349 2, ct BK354 0, ct BK354 1, ct BK350 0, ct BK350 1, ct BK350 2⟩ (fun hHeld => ?_); refine with_tabW frac_reduced.tab2 frac_reduced.bits2 (fun HT_ HW_ => ?_)
      generalize w24.drew = w25 at BK349 BK350 BK351 BK354 HB hHeld ⊢
      refine pu_ 0 (some 16) (m_ 12 1) rfl rfl (ao HT_) ?_
      refine pu_ 4 (some 20) (m_ 12 17) rfl rfl (ao HT_) ?_
      refine tk_ 1 (some 17) (m_ 12 19) rfl rfl (tw HT_ HW_) hHeld ?_
      refine tk_ 2 (some 18) (m_ 12 23) rfl rfl (tw HT_ HW_) hHeld ?_
      refine tk_ 5 (some 21) (m_ 12 55) rfl rfl (tw HT_ HW_) hHeld ?_
      refine tk_ 6 (some 22) (m_ 12 119) rfl rfl (tw HT_ HW_) hHeld ?_
      refine o1_ 3 (some 19) (m_ 12 127) rfl rfl (oo HT_) (fun K hK => ?_)
      refine gs_ rfl Tryd.func82 (frac_wide_over.calls _ _ _ _ _ _ _ _ A4.out) ag ?_
      intro w26 hb
      replace BK349 := bb BK349 hb
      replace BK350 := bb BK350 hb
      replace BK351 := bb BK351 hb
      replace BK354 := bb BK354 hb
      replace HB := bs HB hb
      (try clear hb)
      refine hK.out _ _ ⟨ct BK349 0, ct BK349 1, ct BK349 2, ct BK354 0, ct BK354 1, ct BK350 0, ct BK350 1, ct BK350 2⟩ (fun hHeld => ?_)
      clear hK K
      refine nr_ (some 19) ?_
      refine pu_ 8 (some 24) (m_ 12 383) rfl rfl (ao HT_) ?_
      refine o1_ 7 (some 23) (m_ 12 511) rfl rfl (oo HT_) (fun K hK => ?_)
      refine gs_ rfl Tryd.func82 (frac_wide_over.calls _ _ _ _ _ _ _ _ A5.out) ag ?_
      intro w27 hb
      replace BK349 := bb BK349 hb
      replace BK350 := bb BK350 hb
      replace BK351 := bb BK351 hb
      replace BK354 := bb BK354 hb
      replace HB := bs HB hb
      (try clear hb)
      refine hK.out _ _ ⟨ct BK349 0, ct BK349 1, ct BK349 2, ct BK354 0, ct BK354 1, ct BK350 0, ct BK350 1, ct BK350 2⟩ (fun hHeld => ?_)
      clear hK K
      refine nr_ (some 23) ?_
      refine last_ (i := 9) (N := none) (m_ 12 1023) rfl rfl (one_of HT_.out (by kernel_rfl)) (by decide) (fun K hK => ?_)
      have hs28 : c_ w27 gb349 1 (.int .u64 a0_1) := ct BK349 1
      have hfs28 := blk_frozen BK349.out 1
      have hns28_1 := NB350_349.out
      have hns28_2 := NB351_349.out
      have hns28_3 := NB354_349.out
      have hms28_1 := NB349_350.out
      have hms28_2 := NB349_351.out
      have hms28_3 := NB349_354.out
      have hs29 : c_ w27 gb349 2 (.int .u64 a0_2) := ct BK349 2
      have hfs29 := blk_frozen BK349.out 2
      have hns29_1 := NB350_349.out
      have hns29_2 := NB351_349.out
      have hns29_3 := NB354_349.out
      have hms29_1 := NB349_350.out
      have hms29_2 := NB349_351.out
      have hms29_3 := NB349_354.out
      refine skip_ (w1 := ?_) (by rfl) rfl ?_ ?_
      rotate_left
      · go_simp
        rfl
      refine hK.out _ _ ?_
      clear hK K
      refine pu_ 10 (some 25) (m_ 12 2047) rfl rfl (ao HT_) ?_
      refine last_ (i := 11) (N := none) (m_ 12 4095) rfl rfl (one_of HT_.out (by kernel_rfl)) (by decide) (fun K hK => ?_)
      have hs30 : c_ w27 gb350 1 (.int .u64 a1_1) := ct BK350 1
      have hfs30 := blk_frozen BK350.out 1
      have hns30_0 := NB349_350.out
      have hns30_2 := NB351_350.out
      have hns30_3 := NB354_350.out
      have hms30_0 := NB350_349.out
      have hms30_2 := NB350_351.out
      have hms30_3 := NB350_354.out
      have hs31 : c_ w27 gb350 2 (.int .u64 a1_2) := ct BK350 2
      have hfs31 := blk_frozen BK350.out 2
      have hns31_0 := NB349_350.out
      have hns31_2 := NB351_350.out
      have hns31_3 := NB354_350.out
      have hms31_0 := NB350_349.out
      have hms31_2 := NB350_351.out
      have hms31_3 := NB350_354.out
      refine skip_ (w1 := ?_) (by rfl) rfl ?_ ?_
      rotate_left
      · go_simp
        rfl
      refine hK.out _ _ ?_
      clear hK K
      refine done_ (done_of HT_.out (by kernel_rfl)) ?_
      have hcz32 := X.k3 BK349
      have hcz33 := X.k3 BK350
      try go_wp2_with (first | ((with_reducible refine gc 83 rfl ?_); refine gm_ (some 35) rfl rfl Tryd.func83 (frac_signed_whole.calls (a0_0 != a1_0) _ _ _ _ _ A6.out) ag ?_; intro w34 hb; replace BK349 := bp_ #[.bool (a0_0 != a1_0), .int .u64 t355, .int .u64 t356] BK349 hb; replace BK350 := bp_ #[.bool false, .int .u64 t357, .int .u64 t358] BK350 hb; replace BK351 := bb BK351 hb; replace HB := bs HB hb; (try clear hb); have hcz35 := X.k3 BK350) | ((with_reducible refine gc 83 rfl ?_); refine gm_ (some 40) rfl rfl Tryd.func83 (frac_signed_whole.calls _ _ _ _ _ _ A7.out) ag ?_; intro w36 hb; replace BK351 := bb BK351 hb; replace HB := bs HB hb; (try clear hb); have hcz37 := X.k2 BK351))
      refine bodyPost_ret (results_ct rfl _ _ gb351 23 #[.int .i64 t359, .int .i64 t361] (0, 0) _ rfl (br_ BK351) Tryd.underlying23 rfl (by kernel_rfl)) rfl ?_
      exact ⟨ae, bf HB⟩
    · replace c9 := Bool.eq_false_iff.mpr c9
      subst c9
      have H1 : (some (0, 0, 2)) = some (r1, r2, r3) := by rw [if_neg (show ¬ (false = true) by decide)] at H; exact H
      clear H
      have H := H1
      clear H1
      simp only [Option.some.injEq, Prod.mk.injEq] at H
      obtain ⟨rfl, rfl, rfl⟩ := H
      go_enter Tryd.func69, Tryd.ntmps69
      try go_wp2_with (first | ((with_reducible refine gd 2 rfl ?_); refine bx_ 2 104 #[.bool a0_0, .int .u64 a0_1, .int .u64 a0_2] rfl rfl ?_; intro gb349 hg w38 BK349 hb; have GE349 := bz HB hg; replace HB := bs HB hb; clear hb hg) | ((with_reducible refine gd 3 rfl ?_); refine bx_ 3 104 #[.bool a1_0, .int .u64 a1_1, .int .u64 a1_2] rfl rfl ?_; intro gb350 hg w39 BK350 hb; have GE350 := bz HB hg; have ⟨NB349_350, NB350_349⟩ := nb BK349 hg; replace BK349 := bb BK349 hb; replace HB := bs HB hb; clear hb hg) | ((with_reducible refine gd 4 rfl ?_); refine bx_ 4 23 #[.int .i64 0, .int .i64 0] rfl rfl ?_; intro gb351 hg w40 BK351 hb; have GE351 := bz HB hg; have ⟨NB349_351, NB351_349⟩ := nb BK349 hg; have ⟨NB350_351, NB351_350⟩ := nb BK350 hg; replace BK349 := bb BK349 hb; replace BK350 := bb BK350 hb; replace HB := bs HB hb; clear hb hg; have hnb41 := nn NB349_350; have hnb42 := nn NB349_351; have hcz43 := X.k3 BK349; have hnb44 := nn NB350_351; have hcz45 := X.k3 BK350) | ((with_reducible refine gc 81 rfl ?_); refine gm_ (some 15) rfl rfl Tryd.func81 (frac_gcd.calls _ _ _ _ _ _ _ _ A3.out (tt GT)) ag ?_; intro w46 hb; replace BK349 := bb BK349 hb; replace BK350 := bb BK350 hb; replace BK351 := bb BK351 hb; replace HB := bs HB hb; (try clear hb)) | ((with_reducible refine gd 6 rfl ?_); refine bx_ 6 102 #[.int .u64 0, .int .u64 0] rfl rfl ?_; intro gb354 hg w47 BK354 hb; have GE354 := bz HB hg; have ⟨NB349_354, NB354_349⟩ := nb BK349 hg; have ⟨NB350_354, NB354_350⟩ := nb BK350 hg; have ⟨NB351_354, NB354_351⟩ := nb BK351 hg; replace BK349 := bb BK349 hb; replace BK350 := bb BK350 hb; replace BK351 := bb BK351 hb; replace HB := bs HB hb; clear hb hg; have hnb48 := nn NB354_349; have hnb49 := nn NB354_350; have hnb50 := nn NB354_351; have hcz51 := X.k2 BK354))
      have n0_ : Aside0 (((w47.setCell ⟨gb354, 0, none⟩ (.int .u64 t352)).setCell ⟨gb354, 1, none⟩ (.int .u64 t353)).heap[gb349]? = some (.cells #[.bool a0_0, .int .u64 a0_1, .int .u64 a0_2] 104 (0, 0))) := bu_ BK349
      have n1_ : Aside0 (((w47.setCell ⟨gb354, 0, none⟩ (.int .u64 t352)).setCell ⟨gb354, 1, none⟩ (.int .u64 t353)).heap[gb350]? = some (.cells #[.bool a1_0, .int .u64 a1_1, .int .u64 a1_2] 104 (0, 0))) := bu_ BK350
      have n2_ : Aside0 (((w47.setCell ⟨gb354, 0, none⟩ (.int .u64 t352)).setCell ⟨gb354, 1, none⟩ (.int .u64 t353)).heap[gb351]? = some (.cells #[.int .i64 0, .int .i64 0] 23 (0, 0))) := bu_ BK351
      have n3_ : Aside0 (((w47.setCell ⟨gb354, 0, none⟩ (.int .u64 t352)).setCell ⟨gb354, 1, none⟩ (.int .u64 t353)).heap[gb354]? = some (.cells #[.int .u64 t352, .int .u64 t353] 102 (0, 0))) := bq_ BK354
      have n4_ : Aside0 (Below w.heap.size w ((w47.setCell ⟨gb354, 0, none⟩ (.int .u64 t352)).setCell ⟨gb354, 1, none⟩ (.int .u64 t353))) := ⟨bf HB⟩
      (try clear BK349); (try clear BK350); (try clear BK351); (try clear BK354); (try clear HB)
      generalize ((w47.setCell ⟨gb354, 0, none⟩ (.int .u64 t352)).setCell ⟨gb354, 1, none⟩ (.int .u64 t353)) = w52 at n0_ n1_ n2_ n3_ n4_ ⊢
      have BK349 := n0_
      have BK350 := n1_
      have BK351 := n2_
      have BK354 := n3_
      have HB := n4_
      clear n0_ n1_ n2_ n3_ n4_
      replace BK349 := Aside0.mk (blk_drew BK349.out)
      replace BK350 := Aside0.mk (blk_drew BK350.out)
      replace BK351 := Aside0.mk (blk_drew BK351.out)
      replace BK354 := Aside0.mk (blk_drew BK354.out)
      replace HB := Aside0.mk (below_drew1 HB.out)
      refine start_ (n := 12) (S := fun w' => c_ w' gb349 0 (.bool a0_0) ∧ c_ w' gb349 1 (.int .u64 a0_1) ∧ c_ w' gb349 2 (.int .u64 a0_2) ∧ c_ w' gb354 0 (.int .u64 t352) ∧ c_ w' gb354 1 (.int .u64 t353) ∧ c_ w' gb350 0 (.bool a1_0) ∧ c_ w' gb350 1 (.int .u64 a1_1) ∧ c_ w' gb350 2 (.int .u64 a1_2)) (ds := [9, 11]) (m_ 12 0) (by kernel_rfl) rfl rfl ⟨ct BK349 0, ct BK349 1, ct BK349 2, ct BK354 0, ct BK354 1, ct BK350 0, ct BK350 1, ct BK350 2⟩ (fun hHeld => ?_); refine with_tabW frac_reduced.tab2 frac_reduced.bits2 (fun HT_ HW_ => ?_)
      generalize w52.drew = w53 at BK349 BK350 BK351 BK354 HB hHeld ⊢
      refine pu_ 0 (some 16) (m_ 12 1) rfl rfl (ao HT_) ?_
      refine pu_ 4 (some 20) (m_ 12 17) rfl rfl (ao HT_) ?_
      refine tk_ 1 (some 17) (m_ 12 19) rfl rfl (tw HT_ HW_) hHeld ?_
      refine tk_ 2 (some 18) (m_ 12 23) rfl rfl (tw HT_ HW_) hHeld ?_
      refine tk_ 5 (some 21) (m_ 12 55) rfl rfl (tw HT_ HW_) hHeld ?_
      refine tk_ 6 (some 22) (m_ 12 119) rfl rfl (tw HT_ HW_) hHeld ?_
      refine o1_ 3 (some 19) (m_ 12 127) rfl rfl (oo HT_) (fun K hK => ?_)
      refine gs_ rfl Tryd.func82 (frac_wide_over.calls _ _ _ _ _ _ _ _ A4.out) ag ?_
      intro w54 hb
      replace BK349 := bb BK349 hb
      replace BK350 := bb BK350 hb
      replace BK351 := bb BK351 hb
      replace BK354 := bb BK354 hb
      replace HB := bs HB hb
      (try clear hb)
      refine hK.out _ _ ⟨ct BK349 0, ct BK349 1, ct BK349 2, ct BK354 0, ct BK354 1, ct BK350 0, ct BK350 1, ct BK350 2⟩ (fun hHeld => ?_)
      clear hK K
      refine nr_ (some 19) ?_
      refine pu_ 8 (some 24) (m_ 12 383) rfl rfl (ao HT_) ?_
      refine o1_ 7 (some 23) (m_ 12 511) rfl rfl (oo HT_) (fun K hK => ?_)
      refine gs_ rfl Tryd.func82 (frac_wide_over.calls _ _ _ _ _ _ _ _ A5.out) ag ?_
      intro w55 hb
      replace BK349 := bb BK349 hb
      replace BK350 := bb BK350 hb
      replace BK351 := bb BK351 hb
      replace BK354 := bb BK354 hb
      replace HB := bs HB hb
      (try clear hb)
      refine hK.out _ _ ⟨ct BK349 0, ct BK349 1, ct BK349 2, ct BK354 0, ct BK354 1, ct BK350 0, ct BK350 1, ct BK350 2⟩ (fun hHeld => ?_)
      clear hK K
      refine nr_ (some 23) ?_
      refine last_ (i := 9) (N := none) (m_ 12 1023) rfl rfl (one_of HT_.out (by kernel_rfl)) (by decide) (fun K hK => ?_)
      have hs56 : c_ w55 gb349 1 (.int .u64 a0_1) := ct BK349 1
      have hfs56 := blk_frozen BK349.out 1
      have hns56_1 := NB350_349.out
      have hns56_2 := NB351_349.out
      have hns56_3 := NB354_349.out
      have hms56_1 := NB349_350.out
      have hms56_2 := NB349_351.out
      have hms56_3 := NB349_354.out
      have hs57 : c_ w55 gb349 2 (.int .u64 a0_2) := ct BK349 2
      have hfs57 := blk_frozen BK349.out 2
      have hns57_1 := NB350_349.out
      have hns57_2 := NB351_349.out
      have hns57_3 := NB354_349.out
      have hms57_1 := NB349_350.out
      have hms57_2 := NB349_351.out
      have hms57_3 := NB349_354.out
      refine skip_ (w1 := ?_) (by rfl) rfl ?_ ?_
      rotate_left
      · go_simp
        rfl
      refine hK.out _ _ ?_
      clear hK K
      refine pu_ 10 (some 25) (m_ 12 2047) rfl rfl (ao HT_) ?_
      refine last_ (i := 11) (N := none) (m_ 12 4095) rfl rfl (one_of HT_.out (by kernel_rfl)) (by decide) (fun K hK => ?_)
      have hs58 : c_ w55 gb350 1 (.int .u64 a1_1) := ct BK350 1
      have hfs58 := blk_frozen BK350.out 1
      have hns58_0 := NB349_350.out
      have hns58_2 := NB351_350.out
      have hns58_3 := NB354_350.out
      have hms58_0 := NB350_349.out
      have hms58_2 := NB350_351.out
      have hms58_3 := NB350_354.out
      have hs59 : c_ w55 gb350 2 (.int .u64 a1_2) := ct BK350 2
      have hfs59 := blk_frozen BK350.out 2
      have hns59_0 := NB349_350.out
      have hns59_2 := NB351_350.out
      have hns59_3 := NB354_350.out
      have hms59_0 := NB350_349.out
      have hms59_2 := NB350_351.out
      have hms59_3 := NB350_354.out
      refine skip_ (w1 := ?_) (by rfl) rfl ?_ ?_
      rotate_left
      · go_simp
        rfl
      refine hK.out _ _ ?_
      clear hK K
      refine done_ (done_of HT_.out (by kernel_rfl)) ?_
      have hcz60 := X.k3 BK349
      have hcz61 := X.k3 BK350
      try go_wp2_with (first | ((with_reducible refine gc 83 rfl ?_); refine gm_ (some 35) rfl rfl Tryd.func83 (frac_signed_whole.calls (a0_0 != a1_0) _ _ _ _ _ A6.out) ag ?_; intro w62 hb; replace BK349 := bp_ #[.bool (a0_0 != a1_0), .int .u64 t355, .int .u64 t356] BK349 hb; replace BK350 := bp_ #[.bool false, .int .u64 t357, .int .u64 t358] BK350 hb; replace BK351 := bb BK351 hb; replace HB := bs HB hb; (try clear hb); have hcz63 := X.k3 BK350) | ((with_reducible refine gc 83 rfl ?_); refine gm_ (some 40) rfl rfl Tryd.func83 (frac_signed_whole.calls _ _ _ _ _ _ A7.out) ag ?_; intro w64 hb; replace BK351 := bb BK351 hb; replace HB := bs HB hb; (try clear hb); have hcz65 := X.k2 BK351))
      refine bodyPost_ret (results_ct rfl _ _ gb351 23 #[.int .i64 0, .int .i64 0] (0, 0) _ rfl (br_ BK351) Tryd.underlying23 rfl (by kernel_rfl)) rfl ?_
      exact ⟨ae, bf HB⟩
  · replace c8 := Bool.eq_false_iff.mpr c8
    subst c8
    have H1 : (some (0, 0, 2)) = some (r1, r2, r3) := by rw [if_neg (show ¬ (false = true) by decide)] at H; exact H
    clear H
    have H := H1
    clear H1
    simp only [Option.some.injEq, Prod.mk.injEq] at H
    obtain ⟨rfl, rfl, rfl⟩ := H
    go_enter Tryd.func69, Tryd.ntmps69
    try go_wp2_with (first | ((with_reducible refine gd 2 rfl ?_); refine bx_ 2 104 #[.bool a0_0, .int .u64 a0_1, .int .u64 a0_2] rfl rfl ?_; intro gb349 hg w66 BK349 hb; have GE349 := bz HB hg; replace HB := bs HB hb; clear hb hg) | ((with_reducible refine gd 3 rfl ?_); refine bx_ 3 104 #[.bool a1_0, .int .u64 a1_1, .int .u64 a1_2] rfl rfl ?_; intro gb350 hg w67 BK350 hb; have GE350 := bz HB hg; have ⟨NB349_350, NB350_349⟩ := nb BK349 hg; replace BK349 := bb BK349 hb; replace HB := bs HB hb; clear hb hg) | ((with_reducible refine gd 4 rfl ?_); refine bx_ 4 23 #[.int .i64 0, .int .i64 0] rfl rfl ?_; intro gb351 hg w68 BK351 hb; have GE351 := bz HB hg; have ⟨NB349_351, NB351_349⟩ := nb BK349 hg; have ⟨NB350_351, NB351_350⟩ := nb BK350 hg; replace BK349 := bb BK349 hb; replace BK350 := bb BK350 hb; replace HB := bs HB hb; clear hb hg; have hnb69 := nn NB349_350; have hnb70 := nn NB349_351; have hcz71 := X.k3 BK349; have hnb72 := nn NB350_351; have hcz73 := X.k3 BK350) | ((with_reducible refine gc 81 rfl ?_); refine gm_ (some 15) rfl rfl Tryd.func81 (frac_gcd.calls _ _ _ _ _ _ _ _ A3.out (tt GT)) ag ?_; intro w74 hb; replace BK349 := bb BK349 hb; replace BK350 := bb BK350 hb; replace BK351 := bb BK351 hb; replace HB := bs HB hb; (try clear hb)) | ((with_reducible refine gd 6 rfl ?_); refine bx_ 6 102 #[.int .u64 0, .int .u64 0] rfl rfl ?_; intro gb354 hg w75 BK354 hb; have GE354 := bz HB hg; have ⟨NB349_354, NB354_349⟩ := nb BK349 hg; have ⟨NB350_354, NB354_350⟩ := nb BK350 hg; have ⟨NB351_354, NB354_351⟩ := nb BK351 hg; replace BK349 := bb BK349 hb; replace BK350 := bb BK350 hb; replace BK351 := bb BK351 hb; replace HB := bs HB hb; clear hb hg; have hnb76 := nn NB354_349; have hnb77 := nn NB354_350; have hnb78 := nn NB354_351; have hcz79 := X.k2 BK354))
    have n0_ : Aside0 (((w75.setCell ⟨gb354, 0, none⟩ (.int .u64 t352)).setCell ⟨gb354, 1, none⟩ (.int .u64 t353)).heap[gb349]? = some (.cells #[.bool a0_0, .int .u64 a0_1, .int .u64 a0_2] 104 (0, 0))) := bu_ BK349
    have n1_ : Aside0 (((w75.setCell ⟨gb354, 0, none⟩ (.int .u64 t352)).setCell ⟨gb354, 1, none⟩ (.int .u64 t353)).heap[gb350]? = some (.cells #[.bool a1_0, .int .u64 a1_1, .int .u64 a1_2] 104 (0, 0))) := bu_ BK350
    have n2_ : Aside0 (((w75.setCell ⟨gb354, 0, none⟩ (.int .u64 t352)).setCell ⟨gb354, 1, none⟩ (.int .u64 t353)).heap[gb351]? = some (.cells #[.int .i64 0, .int .i64 0] 23 (0, 0))) := bu_ BK351
    have n3_ : Aside0 (((w75.setCell ⟨gb354, 0, none⟩ (.int .u64 t352)).setCell ⟨gb354, 1, none⟩ (.int .u64 t353)).heap[gb354]? = some (.cells #[.int .u64 t352, .int .u64 t353] 102 (0, 0))) := bq_ BK354
    have n4_ : Aside0 (Below w.heap.size w ((w75.setCell ⟨gb354, 0, none⟩ (.int .u64 t352)).setCell ⟨gb354, 1, none⟩ (.int .u64 t353))) := ⟨bf HB⟩
    (try clear BK349); (try clear BK350); (try clear BK351); (try clear BK354); (try clear HB)
    generalize ((w75.setCell ⟨gb354, 0, none⟩ (.int .u64 t352)).setCell ⟨gb354, 1, none⟩ (.int .u64 t353)) = w80 at n0_ n1_ n2_ n3_ n4_ ⊢
    have BK349 := n0_
    have BK350 := n1_
    have BK351 := n2_
    have BK354 := n3_
    have HB := n4_
    clear n0_ n1_ n2_ n3_ n4_
    replace BK349 := Aside0.mk (blk_drew BK349.out)
    replace BK350 := Aside0.mk (blk_drew BK350.out)
    replace BK351 := Aside0.mk (blk_drew BK351.out)
    replace BK354 := Aside0.mk (blk_drew BK354.out)
    replace HB := Aside0.mk (below_drew1 HB.out)
    refine start_ (n := 12) (S := fun w' => c_ w' gb349 0 (.bool a0_0) ∧ c_ w' gb349 1 (.int .u64 a0_1) ∧ c_ w' gb349 2 (.int .u64 a0_2) ∧ c_ w' gb354 0 (.int .u64 t352) ∧ c_ w' gb354 1 (.int .u64 t353) ∧ c_ w' gb350 0 (.bool a1_0) ∧ c_ w' gb350 1 (.int .u64 a1_1) ∧ c_ w' gb350 2 (.int .u64 a1_2)) (ds := [9, 11]) (m_ 12 0) (by kernel_rfl) rfl rfl ⟨ct BK349 0, ct BK349 1, ct BK349 2, ct BK354 0, ct BK354 1, ct BK350 0, ct BK350 1, ct BK350 2⟩ (fun hHeld => ?_); refine with_tabW frac_reduced.tab2 frac_reduced.bits2 (fun HT_ HW_ => ?_)
    generalize w80.drew = w81 at BK349 BK350 BK351 BK354 HB hHeld ⊢
    refine pu_ 0 (some 16) (m_ 12 1) rfl rfl (ao HT_) ?_
    refine pu_ 4 (some 20) (m_ 12 17) rfl rfl (ao HT_) ?_
    refine tk_ 1 (some 17) (m_ 12 19) rfl rfl (tw HT_ HW_) hHeld ?_
    refine tk_ 2 (some 18) (m_ 12 23) rfl rfl (tw HT_ HW_) hHeld ?_
    refine tk_ 5 (some 21) (m_ 12 55) rfl rfl (tw HT_ HW_) hHeld ?_
    refine tk_ 6 (some 22) (m_ 12 119) rfl rfl (tw HT_ HW_) hHeld ?_
    refine o1_ 3 (some 19) (m_ 12 127) rfl rfl (oo HT_) (fun K hK => ?_)
    refine gs_ rfl Tryd.func82 (frac_wide_over.calls _ _ _ _ _ _ _ _ A4.out) ag ?_
    intro w82 hb
    replace BK349 := bb BK349 hb
    replace BK350 := bb BK350 hb
    replace BK351 := bb BK351 hb
    replace BK354 := bb BK354 hb
    replace HB := bs HB hb
    (try clear hb)
    refine hK.out _ _ ⟨ct BK349 0, ct BK349 1, ct BK349 2, ct BK354 0, ct BK354 1, ct BK350 0, ct BK350 1, ct BK350 2⟩ (fun hHeld => ?_)
    clear hK K
    refine nr_ (some 19) ?_
    refine pu_ 8 (some 24) (m_ 12 383) rfl rfl (ao HT_) ?_
    refine o1_ 7 (some 23) (m_ 12 511) rfl rfl (oo HT_) (fun K hK => ?_)
    refine gs_ rfl Tryd.func82 (frac_wide_over.calls _ _ _ _ _ _ _ _ A5.out) ag ?_
    intro w83 hb
    replace BK349 := bb BK349 hb
    replace BK350 := bb BK350 hb
    replace BK351 := bb BK351 hb
    replace BK354 := bb BK354 hb
    replace HB := bs HB hb
    (try clear hb)
    refine hK.out _ _ ⟨ct BK349 0, ct BK349 1, ct BK349 2, ct BK354 0, ct BK354 1, ct BK350 0, ct BK350 1, ct BK350 2⟩ (fun hHeld => ?_)
    clear hK K
    refine nr_ (some 23) ?_
    refine last_ (i := 9) (N := none) (m_ 12 1023) rfl rfl (one_of HT_.out (by kernel_rfl)) (by decide) (fun K hK => ?_)
    have hs84 : c_ w83 gb349 1 (.int .u64 a0_1) := ct BK349 1
    have hfs84 := blk_frozen BK349.out 1
    have hns84_1 := NB350_349.out
    have hns84_2 := NB351_349.out
    have hns84_3 := NB354_349.out
    have hms84_1 := NB349_350.out
    have hms84_2 := NB349_351.out
    have hms84_3 := NB349_354.out
    have hs85 : c_ w83 gb349 2 (.int .u64 a0_2) := ct BK349 2
    have hfs85 := blk_frozen BK349.out 2
    have hns85_1 := NB350_349.out
    have hns85_2 := NB351_349.out
    have hns85_3 := NB354_349.out
    have hms85_1 := NB349_350.out
    have hms85_2 := NB349_351.out
    have hms85_3 := NB349_354.out
    refine skip_ (w1 := ?_) (by rfl) rfl ?_ ?_
    rotate_left
    · go_simp
      rfl
    refine hK.out _ _ ?_
    clear hK K
    refine pu_ 10 (some 25) (m_ 12 2047) rfl rfl (ao HT_) ?_
    refine last_ (i := 11) (N := none) (m_ 12 4095) rfl rfl (one_of HT_.out (by kernel_rfl)) (by decide) (fun K hK => ?_)
    have hs86 : c_ w83 gb350 1 (.int .u64 a1_1) := ct BK350 1
    have hfs86 := blk_frozen BK350.out 1
    have hns86_0 := NB349_350.out
    have hns86_2 := NB351_350.out
    have hns86_3 := NB354_350.out
    have hms86_0 := NB350_349.out
    have hms86_2 := NB350_351.out
    have hms86_3 := NB350_354.out
    have hs87 : c_ w83 gb350 2 (.int .u64 a1_2) := ct BK350 2
    have hfs87 := blk_frozen BK350.out 2
    have hns87_0 := NB349_350.out
    have hns87_2 := NB351_350.out
    have hns87_3 := NB354_350.out
    have hms87_0 := NB350_349.out
    have hms87_2 := NB350_351.out
    have hms87_3 := NB350_354.out
    refine skip_ (w1 := ?_) (by rfl) rfl ?_ ?_
    rotate_left
    · go_simp
      rfl
    refine hK.out _ _ ?_
    clear hK K
    refine done_ (done_of HT_.out (by kernel_rfl)) ?_
    have hcz88 := X.k3 BK349
    have hcz89 := X.k3 BK350
    try go_wp2_with (first | ((with_reducible refine gc 83 rfl ?_); refine gm_ (some 35) rfl rfl Tryd.func83 (frac_signed_whole.calls (a0_0 != a1_0) _ _ _ _ _ A6.out) ag ?_; intro w90 hb; replace BK349 := bp_ #[.bool (a0_0 != a1_0), .int .u64 t355, .int .u64 t356] BK349 hb; replace BK350 := bp_ #[.bool false, .int .u64 t357, .int .u64 t358] BK350 hb; replace BK351 := bb BK351 hb; replace HB := bs HB hb; (try clear hb); have hcz91 := X.k3 BK350) | ((with_reducible refine gc 83 rfl ?_); refine gm_ (some 40) rfl rfl Tryd.func83 (frac_signed_whole.calls _ _ _ _ _ _ A7.out) ag ?_; intro w92 hb; replace BK351 := bb BK351 hb; replace HB := bs HB hb; (try clear hb); have hcz93 := X.k2 BK351))
    refine bodyPost_ret (results_ct rfl _ _ gb351 23 #[.int .i64 0, .int .i64 0] (0, 0) _ rfl (br_ BK351) Tryd.underlying23 rfl (by kernel_rfl)) rfl ?_
    exact ⟨ae, bf HB⟩

/-! ### frac_sized: function 70 -/
theorem frac_sized.calls (a0 : Int) (r1 : Bool) (r2 : Int) (r3 : Int) (w : World) (h : frac_sized.f a0 = some (r1, r2, r3)) :
    Calls Tryd.prog 70 #[.int .i64 a0] w fun e w' => e = .returned (.agg #[.bool r1, .int .u64 r2, .int .u64 r3]) ∧ Below w.heap.size w w' := by
  have hu104 := Tryd.underlying104
  have hu102 := Tryd.underlying102
  have HB := Aside0.mk (Below.refl w.heap.size w)
  have H : (if a0 < 0 then (some (true, 0, IntKind.u64.wrap (-(IntKind.u64.wrap (a0))))) else (some (false, 0, IntKind.u64.wrap (a0)))) = some (r1, r2, r3) := h
  clear h
  by_cases c2 : a0 < 0
  · rw [if_pos c2] at H
    have c2b0 : decide (a0 < 0) = true := decide_eq_true c2
    clear c2
    simp only [Option.some.injEq, Prod.mk.injEq] at H
    obtain ⟨rfl, rfl, rfl⟩ := H
    go_enter Tryd.func70, Tryd.ntmps70
    go_wp2_with (first | ((with_reducible refine gd 2 rfl ?_); refine bx_ 2 104 #[.bool false, .int .u64 0, .int .u64 0] rfl rfl ?_; intro gb363 hg w3 BK363 hb; have GE363 := bz HB hg; replace HB := bs HB hb; clear hb hg; have hcz4 := X.k3 BK363))
    refine bodyPost_ret (results_cell_row rfl _ _ gb363 104 #[.bool true, .int .u64 0, .int .u64 (IntKind.u64.wrap (-(IntKind.u64.wrap (a0))))] (0, 0) _ rfl (br_ BK363) Tryd.underlying104 rfl (by kernel_rfl)) rfl ?_
    exact ⟨ae, bf HB⟩
  · rw [if_neg c2] at H
    have c2b0 : decide (a0 < 0) = false := decide_eq_false c2
    clear c2
    simp only [Option.some.injEq, Prod.mk.injEq] at H
    obtain ⟨rfl, rfl, rfl⟩ := H
    go_enter Tryd.func70, Tryd.ntmps70
    go_wp2_with (first | ((with_reducible refine gd 2 rfl ?_); refine bx_ 2 104 #[.bool false, .int .u64 0, .int .u64 0] rfl rfl ?_; intro gb363 hg w5 BK363 hb; have GE363 := bz HB hg; replace HB := bs HB hb; clear hb hg; have hcz6 := X.k3 BK363))
    refine bodyPost_ret (results_cell_row rfl _ _ gb363 104 #[.bool false, .int .u64 0, .int .u64 (IntKind.u64.wrap (a0))] (0, 0) _ rfl (br_ BK363) Tryd.underlying104 rfl (by kernel_rfl)) rfl ?_
    exact ⟨ae, bf HB⟩

/-! ### frac_Of: function 64 -/
theorem frac_Of.calls (k : Nat) (a0 : Int) (a1 : Int) (r1 : Int) (r2 : Int) (r3 : Int) (w : World) (h : frac_Of.f k a0 a1 = some (r1, r2, r3)) (hT : TabOK w) :
    Calls Tryd.prog 64 #[.int .i64 a0, .int .i64 a1] w fun e w' => e = .returned (.tuple #[.agg #[.int .i64 r1, .int .i64 r2], .int .i64 r3]) ∧ Below w.heap.size w w' := by
  have GT := Aside0.mk hT
  clear hT
  have hu23 := Tryd.underlying23
  have HB := Aside0.mk (Below.refl w.heap.size w)
  have H : (if a1 = 0 then (some (0, 0, 3)) else ((frac_sized.f a0).bind fun bt365 => ((frac_sized.f a1).bind fun bt368 => ((frac_reduced.f k bt365.1 bt365.2.1 bt365.2.2 bt368.1 bt368.2.1 bt368.2.2).bind fun bt371 => (some (bt371.1, bt371.2.1, bt371.2.2)))))) = some (r1, r2, r3) := h
  clear h
  by_cases c3 : a1 = 0
  · rw [if_pos c3] at H
    have c3b0 : (a1 == 0) = true := beq_iff_eq.mpr c3
    have c3b1 : (a1 != 0) = false := bne_eq_false_iff_eq.mpr c3
    clear c3
    simp only [Option.some.injEq, Prod.mk.injEq] at H
    obtain ⟨rfl, rfl, rfl⟩ := H
    go_enter Tryd.func64, Tryd.ntmps64
    go_wp2_with (first | ((with_reducible refine gd 4 rfl ?_); refine bx_ 4 23 #[.int .i64 0, .int .i64 0] rfl rfl ?_; intro gb364 hg w4 BK364 hb; have GE364 := bz HB hg; replace HB := bs HB hb; clear hb hg; have hcz5 := X.k2 BK364))
    refine bodyPost_ret (results_ct rfl _ _ gb364 23 #[.int .i64 0, .int .i64 0] (0, 0) _ rfl (br_ BK364) Tryd.underlying23 rfl (by kernel_rfl)) rfl ?_
    exact ⟨ae, bf HB⟩
  · rw [if_neg c3] at H
    have c3b0 : (a1 == 0) = false := beq_eq_false_iff_ne.mpr c3
    have c3b1 : (a1 != 0) = true := bne_iff_ne.mpr c3
    replace H := bi_ H; obtain ⟨⟨t365, t366, t367⟩, A6, H⟩ := H
    (try dsimp only at H)
    replace H := bi_ H; obtain ⟨⟨t368, t369, t370⟩, A7, H⟩ := H
    (try dsimp only at H)
    replace H := bi_ H; obtain ⟨⟨t371, t372, t373⟩, A8, H⟩ := H
    (try dsimp only at H)
    simp only [Option.some.injEq, Prod.mk.injEq] at H
    obtain ⟨rfl, rfl, rfl⟩ := H
    go_enter Tryd.func64, Tryd.ntmps64
    go_wp2_with (first | ((with_reducible refine gd 4 rfl ?_); refine bx_ 4 23 #[.int .i64 0, .int .i64 0] rfl rfl ?_; intro gb364 hg w9 BK364 hb; have GE364 := bz HB hg; replace HB := bs HB hb; clear hb hg) | ((with_reducible refine gc 70 rfl ?_); refine gm_ (some 10) rfl rfl Tryd.func70 (frac_sized.calls _ _ _ _ _ A6.out) ag ?_; intro w10 hb; replace BK364 := bb BK364 hb; replace HB := bs HB hb; (try clear hb)) | ((with_reducible refine gc 70 rfl ?_); refine gm_ (some 12) rfl rfl Tryd.func70 (frac_sized.calls _ _ _ _ _ A7.out) ag ?_; intro w11 hb; replace BK364 := bb BK364 hb; replace HB := bs HB hb; (try clear hb)) | ((with_reducible refine gc 69 rfl ?_); refine gm_ (some 13) rfl rfl Tryd.func69 (frac_reduced.calls _ _ _ _ _ _ _ _ _ _ _ A8.out (tt GT)) ag ?_; intro w12 hb; replace BK364 := bb BK364 hb; replace HB := bs HB hb; (try clear hb); have hcz13 := X.k2 BK364))
    refine bodyPost_ret (results_ct rfl _ _ gb364 23 #[.int .i64 t371, .int .i64 t372] (0, 0) _ rfl (br_ BK364) Tryd.underlying23 rfl (by kernel_rfl)) rfl ?_
    exact ⟨ae, bf HB⟩

/-! ### demand_volume_1: function 63 -/
theorem demand_volume_1.calls (k : Nat) (a0_0 : Int) (a0_1 : Int) (r1 : Int) (r2 : Int) (r3 : Int) (w : World) (h : demand_volume_1.f k a0_0 a0_1 = some (r1, r2, r3)) (hT : TabOK w) :
    Calls Tryd.prog 63 #[.agg #[.int .i64 a0_0, .int .i64 a0_1]] w fun e w' => e = .returned (.tuple #[.agg #[.int .i64 r1, .int .i64 r2], .int .i64 r3]) ∧ Below w.heap.size w w' := by
  have GT := Aside0.mk hT
  clear hT
  have hu23 := Tryd.underlying23
  have HB := Aside0.mk (Below.refl w.heap.size w)
  have H : ((frac_Of.f k a0_0 a0_1).bind fun bt376 => (some (bt376.1, bt376.2.1, bt376.2.2))) = some (r1, r2, r3) := h
  clear h
  replace H := bi_ H; obtain ⟨⟨t376, t377, t378⟩, A2, H⟩ := H
  (try dsimp only at H)
  simp only [Option.some.injEq, Prod.mk.injEq] at H
  obtain ⟨rfl, rfl, rfl⟩ := H
  go_enter Tryd.func63, Tryd.ntmps63
  go_wp2_with (first | ((with_reducible refine gd 1 rfl ?_); refine bx_ 1 23 #[.int .i64 a0_0, .int .i64 a0_1] rfl rfl ?_; intro gb374 hg w3 BK374 hb; have GE374 := bz HB hg; replace HB := bs HB hb; clear hb hg) | ((with_reducible refine gd 2 rfl ?_); refine bx_ 2 23 #[.int .i64 0, .int .i64 0] rfl rfl ?_; intro gb375 hg w4 BK375 hb; have GE375 := bz HB hg; have ⟨NB374_375, NB375_374⟩ := nb BK374 hg; replace BK374 := bb BK374 hb; replace HB := bs HB hb; clear hb hg; have hnb5 := nn NB374_375; have hcz6 := X.k2 BK374) | ((with_reducible refine gc 64 rfl ?_); refine gm_ (some 8) rfl rfl Tryd.func64 (frac_Of.calls _ _ _ _ _ _ _ A2.out (tt GT)) ag ?_; intro w7 hb; replace BK375 := bb BK375 hb; replace HB := bs HB hb; (try clear hb); have hcz8 := X.k2 BK375))
  refine bodyPost_ret (results_ct rfl _ _ gb375 23 #[.int .i64 t376, .int .i64 t377] (0, 0) _ rfl (br_ BK375) Tryd.underlying23 rfl (by kernel_rfl)) rfl ?_
  exact ⟨ae, bf HB⟩

end Go.Proofs.YtnocpmngpekceaaDoor.X
