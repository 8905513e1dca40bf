/- Walks: each '.calls' says that the Go function comes to what its Lean function tells. Conditions: as each theorem's head says. -/
import Derived.Test.YtjgnaccamakpdaaDoorXD
import Derived.Test.YtjgnaccamakpdaaDoorX0
import Derived.Test.YtjgnaccamakpdaaDoorX7
import Derived.Test.YtjgnaccamakpdaaDoorX8
import Derived.Test.YtjgnaccamakpdaaDoorX9
import Derived.Test.YtjgnaccamakpdaaDoorX16
namespace Go.Proofs.YtjgnaccamakpdaaDoor.X
open Go.RowKit Go.Proofs.YtjgnaccamakpdaaDoorW.PrintWords Go.Proofs.YtjgnaccamakpdaaDoorW.PrintLast Go.Proofs.YtjgnaccamakpdaaDoorW.PrintMore
attribute [local go_sem] max2_int min2_int max_two min_two max_three min_three max_four min_four   -- for this text's walks alone
set_option linter.unusedVariables false
set_option maxHeartbeats 8000000
set_option maxRecDepth 100000
set_option linter.unusedSimpArgs false

/-! ### frac_added_fn48: function 900001 -/
def frac_added_fn48.T2 : Bool × List (List Nat × List Nat) := (true, [([], []), ([0], [0]), ([1], [1]), ([], []), ([3], [3]), ([4, 2], [4]), ([2, 5, 5], [2, 5]), ([], []), ([7, 6, 6, 0, 1, 2, 3, 4, 5, 6, 7], [6, 7])])
def frac_added_fn48.B2 : List Nat := [0, 1, 3, 0, 8, 31, 63, 0, 255]
theorem frac_added_fn48.tab2 : rtab .any (opsOf Tryd.f37 2) = frac_added_fn48.T2 := by kernel_rfl
theorem frac_added_fn48.bits2 : waitsOk frac_added_fn48.T2.2 frac_added_fn48.B2 = true := by kernel_rfl
def frac_added_fn48.T3 : Bool × List (List Nat × List Nat) := (true, [([], []), ([], []), ([1], [1]), ([2], [2]), ([], []), ([4], [4]), ([5, 3], [5]), ([3, 6, 6], [3, 6]), ([0, 7, 7], [0, 7]), ([], []), ([9, 8, 8, 0, 1, 2, 3, 4, 5, 6, 7, 8, 9], [8, 9])])
def frac_added_fn48.B3 : List Nat := [0, 0, 2, 6, 0, 16, 62, 126, 255, 0, 1023]
theorem frac_added_fn48.tab3 : rtab .any (opsOf Tryd.f37 3) = frac_added_fn48.T3 := by kernel_rfl
theorem frac_added_fn48.bits3 : waitsOk frac_added_fn48.T3.2 frac_added_fn48.B3 = true := by kernel_rfl
def frac_added_fn48.T4 : Bool × List (List Nat × List Nat) := (true, [([], []), ([], []), ([0, 1], [0, 1]), ([], []), ([3], [3]), ([4, 2], [4]), ([], []), ([6], [6]), ([7, 5], [7]), ([5, 8, 8], [5, 8]), ([2, 9, 9], [2, 9]), ([10], [10]), ([10], [10]), ([11, 10, 0, 1, 2, 3, 4, 5, 6, 7, 8, 9, 10, 11, 12], [11]), ([12, 13, 0, 1, 2, 3, 4, 5, 6, 7, 8, 9, 10, 11, 12, 13], [12])])
def frac_added_fn48.B4 : List Nat := [0, 0, 3, 0, 8, 31, 0, 64, 255, 511, 1023, 2047, 2047, 8191, 16383]
theorem frac_added_fn48.tab4 : rtab .any (opsOf Tryd.f37 4) = frac_added_fn48.T4 := by kernel_rfl
theorem frac_added_fn48.bits4 : waitsOk frac_added_fn48.T4.2 frac_added_fn48.B4 = true := by kernel_rfl
theorem frac_added_fn48.calls (k : Nat) (a0_0 : Int) (a0_1 : Int) (a1_0 : Int) (a1_1 : Int) (r1 : Int) (r2 : Int) (r3 : Int) (w : World) (h : frac_added_fn48.f k a0_0 a0_1 a1_0 a1_1 = some (r1, r2, r3)) (hT : TabOK w) :
    Calls Tryd.prog 37 #[.agg #[.int .i64 a0_0, .int .i64 a0_1], .agg #[.int .i64 a1_0, .int .i64 a1_1], .func (.func 48) #[] #[]] w fun e w' => e = .returned (.tuple #[.agg #[.int .i64 r1, .int .i64 r2], .int .i64 r3]) ∧ Below w.heap.size w w' := by
  have GT := Aside0.mk hT
  clear hT
  have hu23 := Tryd.underlying23
  have hu50 := Tryd.underlying50
  have HB := Aside0.mk (Below.refl w.heap.size w)
  have H : ((frac_norm.f k a0_0 a0_1).bind fun bt480 => ((frac_norm.f k a1_0 a1_1).bind fun bt482 => ((frac_sized.f bt480.1).bind fun bt484 => ((frac_sized.f bt482.2).bind fun bt487 => ((frac_signed_times.f bt484.1 bt484.2.1 bt484.2.2 bt487.1 bt487.2.1 bt487.2.2).bind fun bt490 => ((frac_sized.f bt482.1).bind fun bt494 => ((frac_sized.f bt480.2).bind fun bt497 => ((frac_signed_times.f bt494.1 bt494.2.1 bt494.2.2 bt497.1 bt497.2.1 bt497.2.2).bind fun bt500 => ((frac_signed_opposite.f bt500.1 bt500.2.1 bt500.2.2).bind fun bt503 => ((frac_signed_plus.f bt490.1 bt490.2.1 bt490.2.2 bt503.1 bt503.2.1 bt503.2.2).bind fun bt507 => ((frac_sized.f bt480.2).bind fun bt510 => ((frac_sized.f bt482.2).bind fun bt513 => ((frac_signed_times.f bt510.1 bt510.2.1 bt510.2.2 bt513.1 bt513.2.1 bt513.2.2).bind fun bt516 => ((frac_reduced.f k bt507.1 bt507.2.1 bt507.2.2 bt516.1 bt516.2.1 bt516.2.2).bind fun bt519 => (some (bt519.1, bt519.2.1, bt519.2.2)))))))))))))))) = some (r1, r2, r3) := h
  clear h
  replace H := bi_ H; obtain ⟨⟨t480, t481⟩, A3, H⟩ := H
  (try dsimp only at H)
  replace H := bi_ H; obtain ⟨⟨t482, t483⟩, A4, H⟩ := H
  (try dsimp only at H)
  replace H := bi_ H; obtain ⟨⟨t484, t485, t486⟩, A5, H⟩ := H
  (try dsimp only at H)
  replace H := bi_ H; obtain ⟨⟨t487, t488, t489⟩, A6, H⟩ := H
  (try dsimp only at H)
  replace H := bi_ H; obtain ⟨⟨t490, t491, t492⟩, A7, H⟩ := H
  (try dsimp only at H)
  replace H := bi_ H; obtain ⟨⟨t494, t495, t496⟩, A8, H⟩ := H
  (try dsimp only at H)
  replace H := bi_ H; obtain ⟨⟨t497, t498, t499⟩, A9, H⟩ := H
  (try dsimp only at H)
  replace H := bi_ H; obtain ⟨⟨t500, t501, t502⟩, A10, H⟩ := H
  (try dsimp only at H)
  replace H := bi_ H; obtain ⟨⟨t503, t504, t505⟩, A11, H⟩ := H
  (try dsimp only at H)
  replace H := bi_ H; obtain ⟨⟨t507, t508, t509⟩, A12, H⟩ := H
  (try dsimp only at H)
  replace H := bi_ H; obtain ⟨⟨t510, t511, t512⟩, A13, H⟩ := H
  (try dsimp only at H)
  replace H := bi_ H; obtain ⟨⟨t513, t514, t515⟩, A14, H⟩ := H
  (try dsimp only at H)
  replace H := bi_ H; obtain ⟨⟨t516, t517, t518⟩, A15, H⟩ := H
  (try dsimp only at H)
  replace H := bi_ H; obtain ⟨⟨t519, t520, t521⟩, A16, H⟩ := H
  (try dsimp only at H)
  simp only [Option.some.injEq, Prod.mk.injEq] at H
  obtain ⟨rfl, rfl, rfl⟩ := H
  go_enter Tryd.func37, Tryd.ntmps37
  try go_wp2_with (first | ((with_reducible refine gd 3 rfl ?_); refine bx_ 3 23 #[.int .i64 a0_0, .int .i64 a0_1] rfl rfl ?_; intro gb477 hg w17 BK477 hb; have GE477 := bz HB hg; replace HB := bs HB hb; clear hb hg) | ((with_reducible refine gd 4 rfl ?_); refine bx_ 4 23 #[.int .i64 a1_0, .int .i64 a1_1] rfl rfl ?_; intro gb478 hg w18 BK478 hb; have GE478 := bz HB hg; have ⟨NB477_478, NB478_477⟩ := nb BK477 hg; replace BK477 := bb BK477 hb; replace HB := bs HB hb; clear hb hg) | ((with_reducible refine gd 6 rfl ?_); refine bx_ 6 23 #[.int .i64 0, .int .i64 0] rfl rfl ?_; intro gb479 hg w19 BK479 hb; have GE479 := bz HB hg; have ⟨NB477_479, NB479_477⟩ := nb BK477 hg; have ⟨NB478_479, NB479_478⟩ := nb BK478 hg; replace BK477 := bb BK477 hb; replace BK478 := bb BK478 hb; replace HB := bs HB hb; clear hb hg))
  replace BK477 := Aside0.mk (blk_drew BK477.out)
  replace BK478 := Aside0.mk (blk_drew BK478.out)
  replace BK479 := Aside0.mk (blk_drew BK479.out)
  replace HB := Aside0.mk (below_drew1 HB.out)
  refine start_ (n := 6) (S := fun w' => c_ w' gb477 0 (.int .i64 a0_0) ∧ c_ w' gb477 1 (.int .i64 a0_1) ∧ c_ w' gb478 0 (.int .i64 a1_0) ∧ c_ w' gb478 1 (.int .i64 a1_1)) (ds := [4, 5]) (m_ 6 0) (by kernel_rfl) rfl rfl ⟨ct BK477 0, ct BK477 1, ct BK478 0, ct BK478 1⟩ (fun hHeld => ?_)
  generalize w19.drew = w20 at BK477 BK478 BK479 HB hHeld ⊢
  refine tk_ 0 (some 10) (m_ 6 1) rfl rfl (by kernel_rfl) hHeld ?_
  refine tk_ 2 (some 12) (m_ 6 5) rfl rfl (by kernel_rfl) hHeld ?_
  refine o1_ 1 (some 11) (m_ 6 7) rfl rfl (by kernel_rfl) (fun K hK => ?_)
  refine gs_ rfl Tryd.func56 (frac_norm.calls _ _ _ _ _ _ A3.out (tt GT)) ag ?_
  intro w21 hb
  replace BK477 := bb BK477 hb
  replace BK478 := bb BK478 hb
  replace BK479 := bb BK479 hb
  replace HB := bs HB hb
  (try clear hb)
  refine hK.out _ _ ⟨ct BK477 0, ct BK477 1, ct BK478 0, ct BK478 1⟩ (fun hHeld => ?_)
  clear hK K
  refine nr_ (some 11) ?_
  refine o1_ 3 (some 13) (m_ 6 15) rfl rfl (by kernel_rfl) (fun K hK => ?_)
  refine gs_ rfl Tryd.func56 (frac_norm.calls _ _ _ _ _ _ A4.out (tt GT)) ag ?_
  intro w22 hb
  replace BK477 := bb BK477 hb
  replace BK478 := bb BK478 hb
  replace BK479 := bb BK479 hb
  replace HB := bs HB hb
  (try clear hb)
  refine hK.out _ _ ⟨ct BK477 0, ct BK477 1, ct BK478 0, ct BK478 1⟩ (fun hHeld => ?_)
  clear hK K
  refine nr_ (some 13) ?_
  refine last_ (i := 4) (N := none) (m_ 6 31) rfl rfl (by kernel_rfl) (by decide) (fun K hK => ?_)
  have hs23 : c_ w22 gb477 0 (.int .i64 a0_0) := ct BK477 0
  have hfs23 := blk_frozen BK477.out 0
  have hns23_1 := NB478_477.out
  have hns23_2 := NB479_477.out
  have hms23_1 := NB477_478.out
  have hms23_2 := NB477_479.out
  have hs24 : c_ w22 gb477 1 (.int .i64 a0_1) := ct BK477 1
  have hfs24 := blk_frozen BK477.out 1
  have hns24_1 := NB478_477.out
  have hns24_2 := NB479_477.out
  have hms24_1 := NB477_478.out
  have hms24_2 := NB477_479.out
  refine skip_ (w1 := ?_) (by rfl) rfl ?_ ?_
  rotate_left
  · go_simp
    rfl
  refine hK.out _ _ ?_
  clear hK K
  refine last_ (i := 5) (N := none) (m_ 6 63) rfl rfl (by kernel_rfl) (by decide) (fun K hK => ?_)
  have hs25 : c_ w22 gb478 0 (.int .i64 a1_0) := ct BK478 0
  have hfs25 := blk_frozen BK478.out 0
  have hns25_0 := NB477_478.out
  have hns25_2 := NB479_478.out
  have hms25_0 := NB478_477.out
  have hms25_2 := NB478_479.out
  have hs26 : c_ w22 gb478 1 (.int .i64 a1_1) := ct BK478 1
  have hfs26 := blk_frozen BK478.out 1
  have hns26_0 := NB477_478.out
  have hns26_2 := NB479_478.out
  have hms26_0 := NB478_477.out
  have hms26_2 := NB478_479.out
  refine skip_ (w1 := ?_) (by rfl) rfl ?_ ?_
  rotate_left
  · go_simp
    rfl
  refine hK.out _ _ ?_
  clear hK K
  refine done_ (by kernel_rfl) ?_
  try go_wp2
  have n0_ : Aside0 (((((w22.setCell ⟨gb477, 0, none⟩ (.int .i64 t480)).setCell ⟨gb477, 1, none⟩ (.int .i64 t481)).setCell ⟨gb478, 0, none⟩ (.int .i64 t482)).setCell ⟨gb478, 1, none⟩ (.int .i64 t483)).heap[gb477]? = some (.cells #[.int .i64 t480, .int .i64 t481] 23 (0, 0))) := bq_ BK477
  have n1_ : Aside0 (((((w22.setCell ⟨gb477, 0, none⟩ (.int .i64 t480)).setCell ⟨gb477, 1, none⟩ (.int .i64 t481)).setCell ⟨gb478, 0, none⟩ (.int .i64 t482)).setCell ⟨gb478, 1, none⟩ (.int .i64 t483)).heap[gb478]? = some (.cells #[.int .i64 t482, .int .i64 t483] 23 (0, 0))) := bq_ BK478
  have n2_ : Aside0 (((((w22.setCell ⟨gb477, 0, none⟩ (.int .i64 t480)).setCell ⟨gb477, 1, none⟩ (.int .i64 t481)).setCell ⟨gb478, 0, none⟩ (.int .i64 t482)).setCell ⟨gb478, 1, none⟩ (.int .i64 t483)).heap[gb479]? = some (.cells #[.int .i64 0, .int .i64 0] 23 (0, 0))) := bu_ BK479
  have n3_ : Aside0 (Below w.heap.size w ((((w22.setCell ⟨gb477, 0, none⟩ (.int .i64 t480)).setCell ⟨gb477, 1, none⟩ (.int .i64 t481)).setCell ⟨gb478, 0, none⟩ (.int .i64 t482)).setCell ⟨gb478, 1, none⟩ (.int .i64 t483))) := ⟨bf HB⟩
  (try clear BK477); (try clear BK478); (try clear BK479); (try clear HB)
  generalize ((((w22.setCell ⟨gb477, 0, none⟩ (.int .i64 t480)).setCell ⟨gb477, 1, none⟩ (.int .i64 t481)).setCell ⟨gb478, 0, none⟩ (.int .i64 t482)).setCell ⟨gb478, 1, none⟩ (.int .i64 t483)) = w27 at n0_ n1_ n2_ n3_ ⊢
  have BK477 := n0_
  have BK478 := n1_
  have BK479 := n2_
  have HB := n3_
  clear n0_ n1_ n2_ n3_
  replace BK477 := Aside0.mk (blk_drew BK477.out)
  replace BK478 := Aside0.mk (blk_drew BK478.out)
  replace BK479 := Aside0.mk (blk_drew BK479.out)
  replace HB := Aside0.mk (below_drew1 HB.out)
  refine start_ (n := 9) (S := fun w' => c_ w' gb477 0 (.int .i64 t480) ∧ c_ w' gb477 1 (.int .i64 t481) ∧ c_ w' gb478 0 (.int .i64 t482) ∧ c_ w' gb478 1 (.int .i64 t483)) (ds := []) (m_ 9 0) (by kernel_rfl) rfl rfl ⟨ct BK477 0, ct BK477 1, ct BK478 0, ct BK478 1⟩ (fun hHeld => ?_); refine with_tabW frac_added_fn48.tab2 frac_added_fn48.bits2 (fun HT_ HW_ => ?_)
  generalize w27.drew = w28 at BK477 BK478 BK479 HB hHeld ⊢
  refine pu_ 0 (some 14) (m_ 9 1) rfl rfl (ao HT_) ?_
  refine pu_ 3 (some 17) (m_ 9 9) rfl rfl (ao HT_) ?_
  refine tk_ 1 (some 15) (m_ 9 11) rfl rfl (tw HT_ HW_) hHeld ?_
  refine tk_ 4 (some 18) (m_ 9 27) rfl rfl (tw HT_ HW_) hHeld ?_
  refine join_ (σ := Nat) 1 (m_ 9 255) (fun s_ => [(16, .agg #[.bool t484, .int .u64 t485, .int .u64 t486]), (19, .agg #[.bool t487, .int .u64 t488, .int .u64 t489]), (20, .agg #[.bool t490, .int .u64 t491, .int .u64 t492]), (8, .pointer (some ⟨s_, 0, none⟩))]) (fun s_ w' => (c_ w' gb477 0 (.int .i64 t480) ∧ c_ w' gb477 1 (.int .i64 t481) ∧ c_ w' gb478 0 (.int .i64 t482) ∧ c_ w' gb478 1 (.int .i64 t483)) ∧ (w'.heap[gb477]? = some (.cells #[.int .i64 t480, .int .i64 t481] 23 (0, 0))) ∧ (w'.heap[gb478]? = some (.cells #[.int .i64 t482, .int .i64 t483] 23 (0, 0))) ∧ (w'.heap[gb479]? = some (.cells #[.int .i64 0, .int .i64 0] 23 (0, 0))) ∧ (w'.heap[s_]? = some (.cells #[.bool false, .int .u64 0, .int .u64 0] 50 (0, 0))) ∧ (w.heap.size ≤ s_) ∧ (w.heap.size ≤ s_) ∧ (gb477 ≠ s_) ∧ (s_ ≠ gb477) ∧ (gb478 ≠ s_) ∧ (s_ ≠ gb478) ∧ (gb479 ≠ s_) ∧ (s_ ≠ gb479) ∧ (Below w.heap.size w w')) ?_ ?_
  rotate_left
  · intro hCont
    refine two_ (i := 2) (j := 7) (Ni := some 16) (Nj := some 8) (m_ 9 31) (m_ 9 155) rfl rfl rfl rfl (two_of HT_.out (by kernel_rfl)) (by decide) (by decide) (fun K hK => ?_) (fun K hK => ?_)
    · skip
      refine gs_ rfl Tryd.func52 (frac_sized.calls _ _ _ _ _ A5.out) ag ?_
      intro w29 hb
      replace BK477 := bb BK477 hb
      replace BK478 := bb BK478 hb
      replace BK479 := bb BK479 hb
      replace HB := bs HB hb
      (try clear hb)
      refine hK.out _ _ ⟨ct BK477 0, ct BK477 1, ct BK478 0, ct BK478 1⟩ (fun hHeld => ?_)
      clear hK K
      refine nr_ (some 16) ?_
      refine two_ (i := 5) (j := 7) (Ni := some 19) (Nj := some 8) (m_ 9 63) (m_ 9 159) rfl rfl rfl rfl (two_of HT_.out (by kernel_rfl)) (by decide) (by decide) (fun K hK => ?_) (fun K hK => ?_)
      · skip
        refine gs_ rfl Tryd.func52 (frac_sized.calls _ _ _ _ _ A6.out) ag ?_
        intro w30 hb
        replace BK477 := bb BK477 hb
        replace BK478 := bb BK478 hb
        replace BK479 := bb BK479 hb
        replace HB := bs HB hb
        (try clear hb)
        refine hK.out _ _ ⟨ct BK477 0, ct BK477 1, ct BK478 0, ct BK478 1⟩ (fun hHeld => ?_)
        clear hK K
        refine nr_ (some 19) ?_
        refine two_ (i := 6) (j := 7) (Ni := some 20) (Nj := some 8) (m_ 9 127) (m_ 9 191) rfl rfl rfl rfl (two_of HT_.out (by kernel_rfl)) (by decide) (by decide) (fun K hK => ?_) (fun K hK => ?_)
        · skip
          refine gs_ rfl Tryd.func57 (frac_signed_times.calls _ _ _ _ _ _ _ _ _ _ A7.out) ag ?_
          intro w31 hb
          replace BK477 := bb BK477 hb
          replace BK478 := bb BK478 hb
          replace BK479 := bb BK479 hb
          replace HB := bs HB hb
          (try clear hb)
          refine hK.out _ _ ⟨ct BK477 0, ct BK477 1, ct BK478 0, ct BK478 1⟩ (fun hHeld => ?_)
          clear hK K
          refine nr_ (some 20) ?_
          refine o1_ 7 (some 8) (m_ 9 255) rfl rfl (oo HT_) (fun K hK => ?_)
          refine box_step ?hg (N := 8) ?hd (cs := #[.bool false, .int .u64 0, .int .u64 0]) (t := 50) ?hr ?_; (case hd => rfl); (case hg => rfl); (case hr => first | (go_simp; done) | (go_simp; rfl))
          intro gb493 hg w32 hbox hb
          have BK493 := Aside0.mk (hbox)
          have GW493 := bz HB hg
          have GE493 := bz HB hg
          have NB477_493 := bl BK477 hg
          have NB493_477 := bg BK477 hg
          have NB478_493 := bl BK478 hg
          have NB493_478 := bg BK478 hg
          have NB479_493 := bl BK479 hg
          have NB493_479 := bg BK479 hg
          replace BK477 := bb BK477 hb
          replace BK478 := bb BK478 hb
          replace BK479 := bb BK479 hb
          replace HB := bs HB hb
          clear hb hg
          refine hK.out _ _ ⟨ct BK477 0, ct BK477 1, ct BK478 0, ct BK478 1⟩ (fun hHeld => ?_)
          clear hK K
          refine nr_ (some 8) ?_
          exact norm_ (by simp only [putAll, Act.put, si, s0, s1]) (hCont (gb493) _ ⟨hHeld, (bx BK477), (bx BK478), (bx BK479), (bx BK493), GW493.out, GE493.out, NB477_493.out, NB493_477.out, NB478_493.out, NB493_478.out, NB479_493.out, NB493_479.out, (bf HB)⟩)
        · skip
          refine box_step ?hg (N := 8) ?hd (cs := #[.bool false, .int .u64 0, .int .u64 0]) (t := 50) ?hr ?_; (case hd => rfl); (case hg => rfl); (case hr => first | (go_simp; done) | (go_simp; rfl))
          intro gb493 hg w31 hbox hb
          have BK493 := Aside0.mk (hbox)
          have GW493 := bz HB hg
          have GE493 := bz HB hg
          have NB477_493 := bl BK477 hg
          have NB493_477 := bg BK477 hg
          have NB478_493 := bl BK478 hg
          have NB493_478 := bg BK478 hg
          have NB479_493 := bl BK479 hg
          have NB493_479 := bg BK479 hg
          replace BK477 := bb BK477 hb
          replace BK478 := bb BK478 hb
          replace BK479 := bb BK479 hb
          replace HB := bs HB hb
          clear hb hg
          refine hK.out _ _ ⟨ct BK477 0, ct BK477 1, ct BK478 0, ct BK478 1⟩ (fun hHeld => ?_)
          clear hK K
          refine nr_ (some 8) ?_
          refine o1_ 6 (some 20) (m_ 9 255) rfl rfl (oo HT_) (fun K hK => ?_)
          refine gs_ rfl Tryd.func57 (frac_signed_times.calls _ _ _ _ _ _ _ _ _ _ A7.out) ag ?_
          intro w32 hb
          replace BK477 := bb BK477 hb
          replace BK478 := bb BK478 hb
          replace BK479 := bb BK479 hb
          replace BK493 := bb BK493 hb
          replace HB := bs HB hb
          (try clear hb)
          refine hK.out _ _ ⟨ct BK477 0, ct BK477 1, ct BK478 0, ct BK478 1⟩ (fun hHeld => ?_)
          clear hK K
          refine nr_ (some 20) ?_
          exact norm_ (by simp only [putAll, Act.put, si, s0, s1]) (hCont (gb493) _ ⟨hHeld, (bx BK477), (bx BK478), (bx BK479), (bx BK493), GW493.out, GE493.out, NB477_493.out, NB493_477.out, NB478_493.out, NB493_478.out, NB479_493.out, NB493_479.out, (bf HB)⟩)
      · skip
        refine box_step ?hg (N := 8) ?hd (cs := #[.bool false, .int .u64 0, .int .u64 0]) (t := 50) ?hr ?_; (case hd => rfl); (case hg => rfl); (case hr => first | (go_simp; done) | (go_simp; rfl))
        intro gb493 hg w30 hbox hb
        have BK493 := Aside0.mk (hbox)
        have GW493 := bz HB hg
        have GE493 := bz HB hg
        have NB477_493 := bl BK477 hg
        have NB493_477 := bg BK477 hg
        have NB478_493 := bl BK478 hg
        have NB493_478 := bg BK478 hg
        have NB479_493 := bl BK479 hg
        have NB493_479 := bg BK479 hg
        replace BK477 := bb BK477 hb
        replace BK478 := bb BK478 hb
        replace BK479 := bb BK479 hb
        replace HB := bs HB hb
        clear hb hg
        refine hK.out _ _ ⟨ct BK477 0, ct BK477 1, ct BK478 0, ct BK478 1⟩ (fun hHeld => ?_)
        clear hK K
        refine nr_ (some 8) ?_
        refine o1_ 5 (some 19) (m_ 9 191) rfl rfl (oo HT_) (fun K hK => ?_)
        refine gs_ rfl Tryd.func52 (frac_sized.calls _ _ _ _ _ A6.out) ag ?_
        intro w31 hb
        replace BK477 := bb BK477 hb
        replace BK478 := bb BK478 hb
        replace BK479 := bb BK479 hb
        replace BK493 := bb BK493 hb
        replace HB := bs HB hb
        (try clear hb)
        refine hK.out _ _ ⟨ct BK477 0, ct BK477 1, ct BK478 0, ct BK478 1⟩ (fun hHeld => ?_)
        clear hK K
        refine nr_ (some 19) ?_
        refine o1_ 6 (some 20) (m_ 9 255) rfl rfl (oo HT_) (fun K hK => ?_)
        refine gs_ rfl Tryd.func57 (frac_signed_times.calls _ _ _ _ _ _ _ _ _ _ A7.out) ag ?_
        intro w32 hb
        replace BK477 := bb BK477 hb
        replace BK478 := bb BK478 hb
        replace BK479 := bb BK479 hb
        replace BK493 := bb BK493 hb
        replace HB := bs HB hb
        (try clear hb)
        refine hK.out _ _ ⟨ct BK477 0, ct BK477 1, ct BK478 0, ct BK478 1⟩ (fun hHeld => ?_)
        clear hK K
        refine nr_ (some 20) ?_
        exact norm_ (by simp only [putAll, Act.put, si, s0, s1]) (hCont (gb493) _ ⟨hHeld, (bx BK477), (bx BK478), (bx BK479), (bx BK493), GW493.out, GE493.out, NB477_493.out, NB493_477.out, NB478_493.out, NB493_478.out, NB479_493.out, NB493_479.out, (bf HB)⟩)
    · skip
      refine box_step ?hg (N := 8) ?hd (cs := #[.bool false, .int .u64 0, .int .u64 0]) (t := 50) ?hr ?_; (case hd => rfl); (case hg => rfl); (case hr => first | (go_simp; done) | (go_simp; rfl))
      intro gb493 hg w29 hbox hb
      have BK493 := Aside0.mk (hbox)
      have GW493 := bz HB hg
      have GE493 := bz HB hg
      have NB477_493 := bl BK477 hg
      have NB493_477 := bg BK477 hg
      have NB478_493 := bl BK478 hg
      have NB493_478 := bg BK478 hg
      have NB479_493 := bl BK479 hg
      have NB493_479 := bg BK479 hg
      replace BK477 := bb BK477 hb
      replace BK478 := bb BK478 hb
      replace BK479 := bb BK479 hb
      replace HB := bs HB hb
      clear hb hg
      refine hK.out _ _ ⟨ct BK477 0, ct BK477 1, ct BK478 0, ct BK478 1⟩ (fun hHeld => ?_)
      clear hK K
      refine nr_ (some 8) ?_
      refine o1_ 2 (some 16) (m_ 9 159) rfl rfl (oo HT_) (fun K hK => ?_)
      refine gs_ rfl Tryd.func52 (frac_sized.calls _ _ _ _ _ A5.out) ag ?_
      intro w30 hb
      replace BK477 := bb BK477 hb
      replace BK478 := bb BK478 hb
      replace BK479 := bb BK479 hb
      replace BK493 := bb BK493 hb
      replace HB := bs HB hb
      (try clear hb)
      refine hK.out _ _ ⟨ct BK477 0, ct BK477 1, ct BK478 0, ct BK478 1⟩ (fun hHeld => ?_)
      clear hK K
      refine nr_ (some 16) ?_
      refine o1_ 5 (some 19) (m_ 9 191) rfl rfl (oo HT_) (fun K hK => ?_)
      refine gs_ rfl Tryd.func52 (frac_sized.calls _ _ _ _ _ A6.out) ag ?_
      intro w31 hb
      replace BK477 := bb BK477 hb
      replace BK478 := bb BK478 hb
      replace BK479 := bb BK479 hb
      replace BK493 := bb BK493 hb
      replace HB := bs HB hb
      (try clear hb)
      refine hK.out _ _ ⟨ct BK477 0, ct BK477 1, ct BK478 0, ct BK478 1⟩ (fun hHeld => ?_)
      clear hK K
      refine nr_ (some 19) ?_
      refine o1_ 6 (some 20) (m_ 9 255) rfl rfl (oo HT_) (fun K hK => ?_)
      refine gs_ rfl Tryd.func57 (frac_signed_times.calls _ _ _ _ _ _ _ _ _ _ A7.out) ag ?_
      intro w32 hb
      replace BK477 := bb BK477 hb
      replace BK478 := bb BK478 hb
      replace BK479 := bb BK479 hb
      replace BK493 := bb BK493 hb
      replace HB := bs HB hb
      (try clear hb)
      refine hK.out _ _ ⟨ct BK477 0, ct BK477 1, ct BK478 0, ct BK478 1⟩ (fun hHeld => ?_)
      clear hK K
      refine nr_ (some 20) ?_
      exact norm_ (by simp only [putAll, Act.put, si, s0, s1]) (hCont (gb493) _ ⟨hHeld, (bx BK477), (bx BK478), (bx BK479), (bx BK493), GW493.out, GE493.out, NB477_493.out, NB493_477.out, NB478_493.out, NB493_478.out, NB479_493.out, NB493_479.out, (bf HB)⟩)
  rintro gb493 w33 ⟨hS_, h0_, h1_, h2_, h3_, h4_, h5_, h6_, h7_, h8_, h9_, h10_, h11_, h12_⟩
  have n0_ : Aside0 (w33.heap[gb477]? = some (.cells #[.int .i64 t480, .int .i64 t481] 23 (0, 0))) := ⟨h0_⟩
  have n1_ : Aside0 (w33.heap[gb478]? = some (.cells #[.int .i64 t482, .int .i64 t483] 23 (0, 0))) := ⟨h1_⟩
  have n2_ : Aside0 (w33.heap[gb479]? = some (.cells #[.int .i64 0, .int .i64 0] 23 (0, 0))) := ⟨h2_⟩
  have n3_ : Aside0 (w33.heap[gb493]? = some (.cells #[.bool false, .int .u64 0, .int .u64 0] 50 (0, 0))) := ⟨h3_⟩
  have n4_ : Aside0 (w.heap.size ≤ gb493) := ⟨h4_⟩
  have n5_ : Aside0 (w.heap.size ≤ gb493) := ⟨h5_⟩
  have n6_ : Aside0 (gb477 ≠ gb493) := ⟨h6_⟩
  have n7_ : Aside0 (gb493 ≠ gb477) := ⟨h7_⟩
  have n8_ : Aside0 (gb478 ≠ gb493) := ⟨h8_⟩
  have n9_ : Aside0 (gb493 ≠ gb478) := ⟨h9_⟩
  have n10_ : Aside0 (gb479 ≠ gb493) := ⟨h10_⟩
  have n11_ : Aside0 (gb493 ≠ gb479) := ⟨h11_⟩
  have n12_ : Aside0 (Below w.heap.size w w33) := ⟨h12_⟩
  clear BK477
  clear BK478
  clear BK479
  clear HB
  clear h0_ h1_ h2_ h3_ h4_ h5_ h6_ h7_ h8_ h9_ h10_ h11_ h12_
  have BK477 := n0_
  have BK478 := n1_
  have BK479 := n2_
  have BK493 := n3_
  have GW493 := n4_
  have GE493 := n5_
  have NB477_493 := n6_
  have NB493_477 := n7_
  have NB478_493 := n8_
  have NB493_478 := n9_
  have NB479_493 := n10_
  have NB493_479 := n11_
  have HB := n12_
  clear n0_ n1_ n2_ n3_ n4_ n5_ n6_ n7_ n8_ n9_ n10_ n11_ n12_
  have hHeld : c_ w33 gb477 0 (.int .i64 t480) ∧ c_ w33 gb477 1 (.int .i64 t481) ∧ c_ w33 gb478 0 (.int .i64 t482) ∧ c_ w33 gb478 1 (.int .i64 t483) := hS_
  refine norm_ (a' := ?_) ?_ ?_
  rotate_left
  · simp only [putAll, Act.put, si, s0, s1]
    rfl
  refine o1_ 8 (none) (m_ 9 511) rfl rfl (oo HT_) (fun K hK => ?_)
  have hs34 : c_ w33 gb493 0 (.bool false) := ct BK493 0
  have hfs34 := blk_frozen BK493.out 0
  have hns34_0 := NB477_493.out
  have hns34_1 := NB478_493.out
  have hns34_2 := NB479_493.out
  have hms34_0 := NB493_477.out
  have hms34_1 := NB493_478.out
  have hms34_2 := NB493_479.out
  have hs35 : c_ w33 gb493 1 (.int .u64 0) := ct BK493 1
  have hfs35 := blk_frozen BK493.out 1
  have hns35_0 := NB477_493.out
  have hns35_1 := NB478_493.out
  have hns35_2 := NB479_493.out
  have hms35_0 := NB493_477.out
  have hms35_1 := NB493_478.out
  have hms35_2 := NB493_479.out
  have hs36 : c_ w33 gb493 2 (.int .u64 0) := ct BK493 2
  have hfs36 := blk_frozen BK493.out 2
  have hns36_0 := NB477_493.out
  have hns36_1 := NB478_493.out
  have hns36_2 := NB479_493.out
  have hms36_0 := NB493_477.out
  have hms36_1 := NB493_478.out
  have hms36_2 := NB493_479.out
  refine skip_ (w1 := ?_) (by rfl) rfl ?_ ?_
  rotate_left
  · go_simp
    rfl
  refine hK.out _ _ ⟨((cell_far (p := ⟨gb493, _, none⟩) NB477_493.out _).trans (((cell_far (p := ⟨gb493, _, none⟩) NB477_493.out _).trans (((cell_far (p := ⟨gb493, _, none⟩) NB477_493.out _).trans (hHeld.1)))))), ((cell_far (p := ⟨gb493, _, none⟩) NB477_493.out _).trans (((cell_far (p := ⟨gb493, _, none⟩) NB477_493.out _).trans (((cell_far (p := ⟨gb493, _, none⟩) NB477_493.out _).trans (hHeld.2.1)))))), ((cell_far (p := ⟨gb493, _, none⟩) NB478_493.out _).trans (((cell_far (p := ⟨gb493, _, none⟩) NB478_493.out _).trans (((cell_far (p := ⟨gb493, _, none⟩) NB478_493.out _).trans (hHeld.2.2.1)))))), ((cell_far (p := ⟨gb493, _, none⟩) NB478_493.out _).trans (((cell_far (p := ⟨gb493, _, none⟩) NB478_493.out _).trans (((cell_far (p := ⟨gb493, _, none⟩) NB478_493.out _).trans (hHeld.2.2.2))))))⟩ (fun hHeld => ?_)
  clear hK K
  refine done_ (done_of HT_.out (by kernel_rfl)) ?_
  try go_wp2
  have n0_ : Aside0 ((((w33.setCell ⟨gb493, 0, none⟩ (.bool t490)).setCell ⟨gb493, 1, none⟩ (.int .u64 t491)).setCell ⟨gb493, 2, none⟩ (.int .u64 t492)).heap[gb477]? = some (.cells #[.int .i64 t480, .int .i64 t481] 23 (0, 0))) := bu_ BK477
  have n1_ : Aside0 ((((w33.setCell ⟨gb493, 0, none⟩ (.bool t490)).setCell ⟨gb493, 1, none⟩ (.int .u64 t491)).setCell ⟨gb493, 2, none⟩ (.int .u64 t492)).heap[gb478]? = some (.cells #[.int .i64 t482, .int .i64 t483] 23 (0, 0))) := bu_ BK478
  have n2_ : Aside0 ((((w33.setCell ⟨gb493, 0, none⟩ (.bool t490)).setCell ⟨gb493, 1, none⟩ (.int .u64 t491)).setCell ⟨gb493, 2, none⟩ (.int .u64 t492)).heap[gb479]? = some (.cells #[.int .i64 0, .int .i64 0] 23 (0, 0))) := bu_ BK479
  have n3_ : Aside0 ((((w33.setCell ⟨gb493, 0, none⟩ (.bool t490)).setCell ⟨gb493, 1, none⟩ (.int .u64 t491)).setCell ⟨gb493, 2, none⟩ (.int .u64 t492)).heap[gb493]? = some (.cells #[.bool t490, .int .u64 t491, .int .u64 t492] 50 (0, 0))) := bq_ BK493
  have n4_ : Aside0 (Below w.heap.size w (((w33.setCell ⟨gb493, 0, none⟩ (.bool t490)).setCell ⟨gb493, 1, none⟩ (.int .u64 t491)).setCell ⟨gb493, 2, none⟩ (.int .u64 t492))) := ⟨bf HB⟩
  (try clear BK477); (try clear BK478); (try clear BK479); (try clear BK493); (try clear HB)
  generalize (((w33.setCell ⟨gb493, 0, none⟩ (.bool t490)).setCell ⟨gb493, 1, none⟩ (.int .u64 t491)).setCell ⟨gb493, 2, none⟩ (.int .u64 t492)) = w37 at n0_ n1_ n2_ n3_ n4_ ⊢
  have BK477 := n0_
  have BK478 := n1_
  have BK479 := n2_
  have BK493 := n3_
  have HB := n4_
  clear n0_ n1_ n2_ n3_ n4_
  replace BK477 := Aside0.mk (blk_drew BK477.out)
  replace BK478 := Aside0.mk (blk_drew BK478.out)
  replace BK479 := Aside0.mk (blk_drew BK479.out)
  replace BK493 := Aside0.mk (blk_drew BK493.out)
  replace HB := Aside0.mk (below_drew1 HB.out)
  refine start_ (n := 11) (S := fun w' => c_ w' gb478 0 (.int .i64 t482) ∧ c_ w' gb478 1 (.int .i64 t483) ∧ c_ w' gb477 0 (.int .i64 t480) ∧ c_ w' gb477 1 (.int .i64 t481)) (ds := []) (m_ 11 0) (by kernel_rfl) rfl rfl ⟨ct BK478 0, ct BK478 1, ct BK477 0, ct BK477 1⟩ (fun hHeld => ?_); refine with_tabW frac_added_fn48.tab3 frac_added_fn48.bits3 (fun HT_ HW_ => ?_)
  generalize w37.drew = w38 at BK477 BK478 BK479 BK493 HB hHeld ⊢
  refine pu_ 0 (some 21) (m_ 11 1) rfl rfl (ao HT_) ?_
  refine pu_ 1 (some 22) (m_ 11 3) rfl rfl (ao HT_) ?_
  refine pu_ 4 (some 25) (m_ 11 19) rfl rfl (ao HT_) ?_
  refine tk_ 2 (some 23) (m_ 11 23) rfl rfl (tw HT_ HW_) hHeld ?_
  refine tk_ 5 (some 26) (m_ 11 55) rfl rfl (tw HT_ HW_) hHeld ?_
  refine join_ (σ := Nat) 1 (m_ 11 1023) (fun s_ => [(24, .agg #[.bool t494, .int .u64 t495, .int .u64 t496]), (27, .agg #[.bool t497, .int .u64 t498, .int .u64 t499]), (28, .agg #[.bool t500, .int .u64 t501, .int .u64 t502]), (29, .agg #[.bool t503, .int .u64 t504, .int .u64 t505]), (9, .pointer (some ⟨s_, 0, none⟩))]) (fun s_ w' => (c_ w' gb478 0 (.int .i64 t482) ∧ c_ w' gb478 1 (.int .i64 t483) ∧ c_ w' gb477 0 (.int .i64 t480) ∧ c_ w' gb477 1 (.int .i64 t481)) ∧ (w'.heap[gb477]? = some (.cells #[.int .i64 t480, .int .i64 t481] 23 (0, 0))) ∧ (w'.heap[gb478]? = some (.cells #[.int .i64 t482, .int .i64 t483] 23 (0, 0))) ∧ (w'.heap[gb479]? = some (.cells #[.int .i64 0, .int .i64 0] 23 (0, 0))) ∧ (w'.heap[gb493]? = some (.cells #[.bool t490, .int .u64 t491, .int .u64 t492] 50 (0, 0))) ∧ (w'.heap[s_]? = some (.cells #[.bool false, .int .u64 0, .int .u64 0] 50 (0, 0))) ∧ (w.heap.size ≤ s_) ∧ (w.heap.size ≤ s_) ∧ (gb477 ≠ s_) ∧ (s_ ≠ gb477) ∧ (gb478 ≠ s_) ∧ (s_ ≠ gb478) ∧ (gb479 ≠ s_) ∧ (s_ ≠ gb479) ∧ (gb493 ≠ s_) ∧ (s_ ≠ gb493) ∧ (Below w.heap.size w w')) ?_ ?_
  rotate_left
  · intro hJ3_6_7_8_9
    refine join_ (σ := Unit) 2 (m_ 11 511) (fun s_ => [(24, .agg #[.bool t494, .int .u64 t495, .int .u64 t496]), (27, .agg #[.bool t497, .int .u64 t498, .int .u64 t499]), (28, .agg #[.bool t500, .int .u64 t501, .int .u64 t502]), (29, .agg #[.bool t503, .int .u64 t504, .int .u64 t505])]) (fun s_ w' => (c_ w' gb478 0 (.int .i64 t482) ∧ c_ w' gb478 1 (.int .i64 t483) ∧ c_ w' gb477 0 (.int .i64 t480) ∧ c_ w' gb477 1 (.int .i64 t481)) ∧ (w'.heap[gb477]? = some (.cells #[.int .i64 t480, .int .i64 t481] 23 (0, 0))) ∧ (w'.heap[gb478]? = some (.cells #[.int .i64 t482, .int .i64 t483] 23 (0, 0))) ∧ (w'.heap[gb479]? = some (.cells #[.int .i64 0, .int .i64 0] 23 (0, 0))) ∧ (w'.heap[gb493]? = some (.cells #[.bool t490, .int .u64 t491, .int .u64 t492] 50 (0, 0))) ∧ (Below w.heap.size w w')) ?_ ?_
    rotate_left
    · intro hJ3_6_7_8
      refine join_ (σ := Nat) 2 (m_ 11 767) (fun s_ => [(24, .agg #[.bool t494, .int .u64 t495, .int .u64 t496]), (27, .agg #[.bool t497, .int .u64 t498, .int .u64 t499]), (28, .agg #[.bool t500, .int .u64 t501, .int .u64 t502]), (9, .pointer (some ⟨s_, 0, none⟩))]) (fun s_ w' => (c_ w' gb478 0 (.int .i64 t482) ∧ c_ w' gb478 1 (.int .i64 t483) ∧ c_ w' gb477 0 (.int .i64 t480) ∧ c_ w' gb477 1 (.int .i64 t481)) ∧ (w'.heap[gb477]? = some (.cells #[.int .i64 t480, .int .i64 t481] 23 (0, 0))) ∧ (w'.heap[gb478]? = some (.cells #[.int .i64 t482, .int .i64 t483] 23 (0, 0))) ∧ (w'.heap[gb479]? = some (.cells #[.int .i64 0, .int .i64 0] 23 (0, 0))) ∧ (w'.heap[gb493]? = some (.cells #[.bool t490, .int .u64 t491, .int .u64 t492] 50 (0, 0))) ∧ (w'.heap[s_]? = some (.cells #[.bool false, .int .u64 0, .int .u64 0] 50 (0, 0))) ∧ (w.heap.size ≤ s_) ∧ (w.heap.size ≤ s_) ∧ (gb477 ≠ s_) ∧ (s_ ≠ gb477) ∧ (gb478 ≠ s_) ∧ (s_ ≠ gb478) ∧ (gb479 ≠ s_) ∧ (s_ ≠ gb479) ∧ (gb493 ≠ s_) ∧ (s_ ≠ gb493) ∧ (Below w.heap.size w w')) ?_ ?_
      rotate_left
      · intro hJ3_6_7_9
        refine join_ (σ := Unit) 3 (m_ 11 255) (fun s_ => [(24, .agg #[.bool t494, .int .u64 t495, .int .u64 t496]), (27, .agg #[.bool t497, .int .u64 t498, .int .u64 t499]), (28, .agg #[.bool t500, .int .u64 t501, .int .u64 t502])]) (fun s_ w' => (c_ w' gb478 0 (.int .i64 t482) ∧ c_ w' gb478 1 (.int .i64 t483) ∧ c_ w' gb477 0 (.int .i64 t480) ∧ c_ w' gb477 1 (.int .i64 t481)) ∧ (w'.heap[gb477]? = some (.cells #[.int .i64 t480, .int .i64 t481] 23 (0, 0))) ∧ (w'.heap[gb478]? = some (.cells #[.int .i64 t482, .int .i64 t483] 23 (0, 0))) ∧ (w'.heap[gb479]? = some (.cells #[.int .i64 0, .int .i64 0] 23 (0, 0))) ∧ (w'.heap[gb493]? = some (.cells #[.bool t490, .int .u64 t491, .int .u64 t492] 50 (0, 0))) ∧ (Below w.heap.size w w')) ?_ ?_
        rotate_left
        · intro hJ3_6_7
          refine join_ (σ := Nat) 3 (m_ 11 639) (fun s_ => [(24, .agg #[.bool t494, .int .u64 t495, .int .u64 t496]), (27, .agg #[.bool t497, .int .u64 t498, .int .u64 t499]), (9, .pointer (some ⟨s_, 0, none⟩))]) (fun s_ w' => (c_ w' gb478 0 (.int .i64 t482) ∧ c_ w' gb478 1 (.int .i64 t483) ∧ c_ w' gb477 0 (.int .i64 t480) ∧ c_ w' gb477 1 (.int .i64 t481)) ∧ (w'.heap[gb477]? = some (.cells #[.int .i64 t480, .int .i64 t481] 23 (0, 0))) ∧ (w'.heap[gb478]? = some (.cells #[.int .i64 t482, .int .i64 t483] 23 (0, 0))) ∧ (w'.heap[gb479]? = some (.cells #[.int .i64 0, .int .i64 0] 23 (0, 0))) ∧ (w'.heap[gb493]? = some (.cells #[.bool t490, .int .u64 t491, .int .u64 t492] 50 (0, 0))) ∧ (w'.heap[s_]? = some (.cells #[.bool false, .int .u64 0, .int .u64 0] 50 (0, 0))) ∧ (w.heap.size ≤ s_) ∧ (w.heap.size ≤ s_) ∧ (gb477 ≠ s_) ∧ (s_ ≠ gb477) ∧ (gb478 ≠ s_) ∧ (s_ ≠ gb478) ∧ (gb479 ≠ s_) ∧ (s_ ≠ gb479) ∧ (gb493 ≠ s_) ∧ (s_ ≠ gb493) ∧ (Below w.heap.size w w')) ?_ ?_
          rotate_left
          · intro hJ3_6_9
            refine join_ (σ := Unit) 4 (m_ 11 127) (fun s_ => [(24, .agg #[.bool t494, .int .u64 t495, .int .u64 t496]), (27, .agg #[.bool t497, .int .u64 t498, .int .u64 t499])]) (fun s_ w' => (c_ w' gb478 0 (.int .i64 t482) ∧ c_ w' gb478 1 (.int .i64 t483) ∧ c_ w' gb477 0 (.int .i64 t480) ∧ c_ w' gb477 1 (.int .i64 t481)) ∧ (w'.heap[gb477]? = some (.cells #[.int .i64 t480, .int .i64 t481] 23 (0, 0))) ∧ (w'.heap[gb478]? = some (.cells #[.int .i64 t482, .int .i64 t483] 23 (0, 0))) ∧ (w'.heap[gb479]? = some (.cells #[.int .i64 0, .int .i64 0] 23 (0, 0))) ∧ (w'.heap[gb493]? = some (.cells #[.bool t490, .int .u64 t491, .int .u64 t492] 50 (0, 0))) ∧ (Below w.heap.size w w')) ?_ ?_
            rotate_left
            · intro hJ3_6
              refine join_ (σ := Nat) 4 (m_ 11 575) (fun s_ => [(24, .agg #[.bool t494, .int .u64 t495, .int .u64 t496]), (9, .pointer (some ⟨s_, 0, none⟩))]) (fun s_ w' => (c_ w' gb478 0 (.int .i64 t482) ∧ c_ w' gb478 1 (.int .i64 t483) ∧ c_ w' gb477 0 (.int .i64 t480) ∧ c_ w' gb477 1 (.int .i64 t481)) ∧ (w'.heap[gb477]? = some (.cells #[.int .i64 t480, .int .i64 t481] 23 (0, 0))) ∧ (w'.heap[gb478]? = some (.cells #[.int .i64 t482, .int .i64 t483] 23 (0, 0))) ∧ (w'.heap[gb479]? = some (.cells #[.int .i64 0, .int .i64 0] 23 (0, 0))) ∧ (w'.heap[gb493]? = some (.cells #[.bool t490, .int .u64 t491, .int .u64 t492] 50 (0, 0))) ∧ (w'.heap[s_]? = some (.cells #[.bool false, .int .u64 0, .int .u64 0] 50 (0, 0))) ∧ (w.heap.size ≤ s_) ∧ (w.heap.size ≤ s_) ∧ (gb477 ≠ s_) ∧ (s_ ≠ gb477) ∧ (gb478 ≠ s_) ∧ (s_ ≠ gb478) ∧ (gb479 ≠ s_) ∧ (s_ ≠ gb479) ∧ (gb493 ≠ s_) ∧ (s_ ≠ gb493) ∧ (Below w.heap.size w w')) ?_ ?_
              rotate_left
              · intro hJ3_9
                refine join_ (σ := Unit) 5 (m_ 11 63) (fun s_ => [(24, .agg #[.bool t494, .int .u64 t495, .int .u64 t496])]) (fun s_ w' => (c_ w' gb478 0 (.int .i64 t482) ∧ c_ w' gb478 1 (.int .i64 t483) ∧ c_ w' gb477 0 (.int .i64 t480) ∧ c_ w' gb477 1 (.int .i64 t481)) ∧ (w'.heap[gb477]? = some (.cells #[.int .i64 t480, .int .i64 t481] 23 (0, 0))) ∧ (w'.heap[gb478]? = some (.cells #[.int .i64 t482, .int .i64 t483] 23 (0, 0))) ∧ (w'.heap[gb479]? = some (.cells #[.int .i64 0, .int .i64 0] 23 (0, 0))) ∧ (w'.heap[gb493]? = some (.cells #[.bool t490, .int .u64 t491, .int .u64 t492] 50 (0, 0))) ∧ (Below w.heap.size w w')) ?_ ?_
                rotate_left
                · intro hJ3
                  refine join_ (σ := Nat) 5 (m_ 11 567) (fun s_ => [(9, .pointer (some ⟨s_, 0, none⟩))]) (fun s_ w' => (c_ w' gb478 0 (.int .i64 t482) ∧ c_ w' gb478 1 (.int .i64 t483) ∧ c_ w' gb477 0 (.int .i64 t480) ∧ c_ w' gb477 1 (.int .i64 t481)) ∧ (w'.heap[gb477]? = some (.cells #[.int .i64 t480, .int .i64 t481] 23 (0, 0))) ∧ (w'.heap[gb478]? = some (.cells #[.int .i64 t482, .int .i64 t483] 23 (0, 0))) ∧ (w'.heap[gb479]? = some (.cells #[.int .i64 0, .int .i64 0] 23 (0, 0))) ∧ (w'.heap[gb493]? = some (.cells #[.bool t490, .int .u64 t491, .int .u64 t492] 50 (0, 0))) ∧ (w'.heap[s_]? = some (.cells #[.bool false, .int .u64 0, .int .u64 0] 50 (0, 0))) ∧ (w.heap.size ≤ s_) ∧ (w.heap.size ≤ s_) ∧ (gb477 ≠ s_) ∧ (s_ ≠ gb477) ∧ (gb478 ≠ s_) ∧ (s_ ≠ gb478) ∧ (gb479 ≠ s_) ∧ (s_ ≠ gb479) ∧ (gb493 ≠ s_) ∧ (s_ ≠ gb493) ∧ (Below w.heap.size w w')) ?_ ?_
                  rotate_left
                  · intro hJ9
                    refine two_ (i := 3) (j := 9) (Ni := some 24) (Nj := some 9) (m_ 11 63) (m_ 11 567) rfl rfl rfl rfl (two_of HT_.out (by kernel_rfl)) (by decide) (by decide) (fun K hK => ?_) (fun K hK => ?_)
                    · skip
                      refine gs_ rfl Tryd.func52 (frac_sized.calls _ _ _ _ _ A8.out) ag ?_
                      intro w39 hb
                      replace BK477 := bb BK477 hb
                      replace BK478 := bb BK478 hb
                      replace BK479 := bb BK479 hb
                      replace BK493 := bb BK493 hb
                      replace HB := bs HB hb
                      (try clear hb)
                      refine hK.out _ _ ⟨ct BK478 0, ct BK478 1, ct BK477 0, ct BK477 1⟩ (fun hHeld => ?_)
                      clear hK K
                      refine nr_ (some 24) ?_
                      exact norm_ (by first | (simp only [putAll, Act.put, si, s0, s1]; done) | (simp only [putAll, Act.put, si, s0, s1]; rfl)) (hJ3 () _ ⟨hHeld, (bx BK477), (bx BK478), (bx BK479), (bx BK493), (bf HB)⟩)
                    · skip
                      refine box_step ?hg (N := 9) ?hd (cs := #[.bool false, .int .u64 0, .int .u64 0]) (t := 50) ?hr ?_; (case hd => rfl); (case hg => rfl); (case hr => first | (go_simp; done) | (go_simp; rfl))
                      intro gb506 hg w39 hbox hb
                      have BK506 := Aside0.mk (hbox)
                      have GW506 := bz HB hg
                      have GE506 := bz HB hg
                      have NB477_506 := bl BK477 hg
                      have NB506_477 := bg BK477 hg
                      have NB478_506 := bl BK478 hg
                      have NB506_478 := bg BK478 hg
                      have NB479_506 := bl BK479 hg
                      have NB506_479 := bg BK479 hg
                      have NB493_506 := bl BK493 hg
                      have NB506_493 := bg BK493 hg
                      replace BK477 := bb BK477 hb
                      replace BK478 := bb BK478 hb
                      replace BK479 := bb BK479 hb
                      replace BK493 := bb BK493 hb
                      replace HB := bs HB hb
                      clear hb hg
                      refine hK.out _ _ ⟨ct BK478 0, ct BK478 1, ct BK477 0, ct BK477 1⟩ (fun hHeld => ?_)
                      clear hK K
                      refine nr_ (some 9) ?_
                      exact norm_ (by first | (simp only [putAll, Act.put, si, s0, s1]; done) | (simp only [putAll, Act.put, si, s0, s1]; rfl)) (hJ9 (gb506) _ ⟨hHeld, (bx BK477), (bx BK478), (bx BK479), (bx BK493), (bx BK506), GW506.out, GE506.out, NB477_506.out, NB506_477.out, NB478_506.out, NB506_478.out, NB479_506.out, NB506_479.out, NB493_506.out, NB506_493.out, (bf HB)⟩)
                  · skip
                    rintro gb506 w40 ⟨hS_, h0_, h1_, h2_, h3_, h4_, h5_, h6_, h7_, h8_, h9_, h10_, h11_, h12_, h13_, h14_, h15_⟩
                    have n0_ : Aside0 (w40.heap[gb477]? = some (.cells #[.int .i64 t480, .int .i64 t481] 23 (0, 0))) := ⟨h0_⟩
                    have n1_ : Aside0 (w40.heap[gb478]? = some (.cells #[.int .i64 t482, .int .i64 t483] 23 (0, 0))) := ⟨h1_⟩
                    have n2_ : Aside0 (w40.heap[gb479]? = some (.cells #[.int .i64 0, .int .i64 0] 23 (0, 0))) := ⟨h2_⟩
                    have n3_ : Aside0 (w40.heap[gb493]? = some (.cells #[.bool t490, .int .u64 t491, .int .u64 t492] 50 (0, 0))) := ⟨h3_⟩
                    have n4_ : Aside0 (w40.heap[gb506]? = some (.cells #[.bool false, .int .u64 0, .int .u64 0] 50 (0, 0))) := ⟨h4_⟩
                    have n5_ : Aside0 (w.heap.size ≤ gb506) := ⟨h5_⟩
                    have n6_ : Aside0 (w.heap.size ≤ gb506) := ⟨h6_⟩
                    have n7_ : Aside0 (gb477 ≠ gb506) := ⟨h7_⟩
                    have n8_ : Aside0 (gb506 ≠ gb477) := ⟨h8_⟩
                    have n9_ : Aside0 (gb478 ≠ gb506) := ⟨h9_⟩
                    have n10_ : Aside0 (gb506 ≠ gb478) := ⟨h10_⟩
                    have n11_ : Aside0 (gb479 ≠ gb506) := ⟨h11_⟩
                    have n12_ : Aside0 (gb506 ≠ gb479) := ⟨h12_⟩
                    have n13_ : Aside0 (gb493 ≠ gb506) := ⟨h13_⟩
                    have n14_ : Aside0 (gb506 ≠ gb493) := ⟨h14_⟩
                    have n15_ : Aside0 (Below w.heap.size w w40) := ⟨h15_⟩
                    clear BK477
                    clear BK478
                    clear BK479
                    clear BK493
                    clear HB
                    clear h0_ h1_ h2_ h3_ h4_ h5_ h6_ h7_ h8_ h9_ h10_ h11_ h12_ h13_ h14_ h15_
                    have BK477 := n0_
                    have BK478 := n1_
                    have BK479 := n2_
                    have BK493 := n3_
                    have BK506 := n4_
                    have GW506 := n5_
                    have GE506 := n6_
                    have NB477_506 := n7_
                    have NB506_477 := n8_
                    have NB478_506 := n9_
                    have NB506_478 := n10_
                    have NB479_506 := n11_
                    have NB506_479 := n12_
                    have NB493_506 := n13_
                    have NB506_493 := n14_
                    have HB := n15_
                    clear n0_ n1_ n2_ n3_ n4_ n5_ n6_ n7_ n8_ n9_ n10_ n11_ n12_ n13_ n14_ n15_
                    have hHeld : c_ w40 gb478 0 (.int .i64 t482) ∧ c_ w40 gb478 1 (.int .i64 t483) ∧ c_ w40 gb477 0 (.int .i64 t480) ∧ c_ w40 gb477 1 (.int .i64 t481) := hS_
                    refine norm_ (a' := ?_) ?_ ?_
                    rotate_left
                    · simp only [putAll, Act.put, si, s0, s1]
                      rfl
                    refine o1_ 3 (some 24) (m_ 11 575) rfl rfl (oo HT_) (fun K hK => ?_)
                    refine gs_ rfl Tryd.func52 (frac_sized.calls _ _ _ _ _ A8.out) ag ?_
                    intro w41 hb
                    replace BK477 := bb BK477 hb
                    replace BK478 := bb BK478 hb
                    replace BK479 := bb BK479 hb
                    replace BK493 := bb BK493 hb
                    replace BK506 := bb BK506 hb
                    replace HB := bs HB hb
                    (try clear hb)
                    refine hK.out _ _ ⟨ct BK478 0, ct BK478 1, ct BK477 0, ct BK477 1⟩ (fun hHeld => ?_)
                    clear hK K
                    refine nr_ (some 24) ?_
                    exact norm_ (by first | (simp only [putAll, Act.put, si, s0, s1]; done) | (simp only [putAll, Act.put, si, s0, s1]; rfl)) (hJ3_9 (gb506) _ ⟨hHeld, (bx BK477), (bx BK478), (bx BK479), (bx BK493), (bx BK506), GW506.out, GE506.out, NB477_506.out, NB506_477.out, NB478_506.out, NB506_478.out, NB479_506.out, NB506_479.out, NB493_506.out, NB506_493.out, (bf HB)⟩)
                · skip
                  rintro _ w40 ⟨hS_, h0_, h1_, h2_, h3_, h4_⟩
                  have n0_ : Aside0 (w40.heap[gb477]? = some (.cells #[.int .i64 t480, .int .i64 t481] 23 (0, 0))) := ⟨h0_⟩
                  have n1_ : Aside0 (w40.heap[gb478]? = some (.cells #[.int .i64 t482, .int .i64 t483] 23 (0, 0))) := ⟨h1_⟩
                  have n2_ : Aside0 (w40.heap[gb479]? = some (.cells #[.int .i64 0, .int .i64 0] 23 (0, 0))) := ⟨h2_⟩
                  have n3_ : Aside0 (w40.heap[gb493]? = some (.cells #[.bool t490, .int .u64 t491, .int .u64 t492] 50 (0, 0))) := ⟨h3_⟩
                  have n4_ : Aside0 (Below w.heap.size w w40) := ⟨h4_⟩
                  clear BK477
                  clear BK478
                  clear BK479
                  clear BK493
                  clear HB
                  clear h0_ h1_ h2_ h3_ h4_
                  have BK477 := n0_
                  have BK478 := n1_
                  have BK479 := n2_
                  have BK493 := n3_
                  have HB := n4_
                  clear n0_ n1_ n2_ n3_ n4_
                  have hHeld : c_ w40 gb478 0 (.int .i64 t482) ∧ c_ w40 gb478 1 (.int .i64 t483) ∧ c_ w40 gb477 0 (.int .i64 t480) ∧ c_ w40 gb477 1 (.int .i64 t481) := hS_
                  refine norm_ (a' := ?_) ?_ ?_
                  rotate_left
                  · simp only [putAll, Act.put, si, s0, s1]
                    rfl
                  refine two_ (i := 6) (j := 9) (Ni := some 27) (Nj := some 9) (m_ 11 127) (m_ 11 575) rfl rfl rfl rfl (two_of HT_.out (by kernel_rfl)) (by decide) (by decide) (fun K hK => ?_) (fun K hK => ?_)
                  · skip
                    refine gs_ rfl Tryd.func52 (frac_sized.calls _ _ _ _ _ A9.out) ag ?_
                    intro w41 hb
                    replace BK477 := bb BK477 hb
                    replace BK478 := bb BK478 hb
                    replace BK479 := bb BK479 hb
                    replace BK493 := bb BK493 hb
                    replace HB := bs HB hb
                    (try clear hb)
                    refine hK.out _ _ ⟨ct BK478 0, ct BK478 1, ct BK477 0, ct BK477 1⟩ (fun hHeld => ?_)
                    clear hK K
                    refine nr_ (some 27) ?_
                    exact norm_ (by first | (simp only [putAll, Act.put, si, s0, s1]; done) | (simp only [putAll, Act.put, si, s0, s1]; rfl)) (hJ3_6 () _ ⟨hHeld, (bx BK477), (bx BK478), (bx BK479), (bx BK493), (bf HB)⟩)
                  · skip
                    refine box_step ?hg (N := 9) ?hd (cs := #[.bool false, .int .u64 0, .int .u64 0]) (t := 50) ?hr ?_; (case hd => rfl); (case hg => rfl); (case hr => first | (go_simp; done) | (go_simp; rfl))
                    intro gb506 hg w41 hbox hb
                    have BK506 := Aside0.mk (hbox)
                    have GW506 := bz HB hg
                    have GE506 := bz HB hg
                    have NB477_506 := bl BK477 hg
                    have NB506_477 := bg BK477 hg
                    have NB478_506 := bl BK478 hg
                    have NB506_478 := bg BK478 hg
                    have NB479_506 := bl BK479 hg
                    have NB506_479 := bg BK479 hg
                    have NB493_506 := bl BK493 hg
                    have NB506_493 := bg BK493 hg
                    replace BK477 := bb BK477 hb
                    replace BK478 := bb BK478 hb
                    replace BK479 := bb BK479 hb
                    replace BK493 := bb BK493 hb
                    replace HB := bs HB hb
                    clear hb hg
                    refine hK.out _ _ ⟨ct BK478 0, ct BK478 1, ct BK477 0, ct BK477 1⟩ (fun hHeld => ?_)
                    clear hK K
                    refine nr_ (some 9) ?_
                    exact norm_ (by first | (simp only [putAll, Act.put, si, s0, s1]; done) | (simp only [putAll, Act.put, si, s0, s1]; rfl)) (hJ3_9 (gb506) _ ⟨hHeld, (bx BK477), (bx BK478), (bx BK479), (bx BK493), (bx BK506), GW506.out, GE506.out, NB477_506.out, NB506_477.out, NB478_506.out, NB506_478.out, NB479_506.out, NB506_479.out, NB493_506.out, NB506_493.out, (bf HB)⟩)
              · skip
                rintro gb506 w41 ⟨hS_, h0_, h1_, h2_, h3_, h4_, h5_, h6_, h7_, h8_, h9_, h10_, h11_, h12_, h13_, h14_, h15_⟩
                have n0_ : Aside0 (w41.heap[gb477]? = some (.cells #[.int .i64 t480, .int .i64 t481] 23 (0, 0))) := ⟨h0_⟩
                have n1_ : Aside0 (w41.heap[gb478]? = some (.cells #[.int .i64 t482, .int .i64 t483] 23 (0, 0))) := ⟨h1_⟩
                have n2_ : Aside0 (w41.heap[gb479]? = some (.cells #[.int .i64 0, .int .i64 0] 23 (0, 0))) := ⟨h2_⟩
                have n3_ : Aside0 (w41.heap[gb493]? = some (.cells #[.bool t490, .int .u64 t491, .int .u64 t492] 50 (0, 0))) := ⟨h3_⟩
                have n4_ : Aside0 (w41.heap[gb506]? = some (.cells #[.bool false, .int .u64 0, .int .u64 0] 50 (0, 0))) := ⟨h4_⟩
                have n5_ : Aside0 (w.heap.size ≤ gb506) := ⟨h5_⟩
                have n6_ : Aside0 (w.heap.size ≤ gb506) := ⟨h6_⟩
                have n7_ : Aside0 (gb477 ≠ gb506) := ⟨h7_⟩
                have n8_ : Aside0 (gb506 ≠ gb477) := ⟨h8_⟩
                have n9_ : Aside0 (gb478 ≠ gb506) := ⟨h9_⟩
                have n10_ : Aside0 (gb506 ≠ gb478) := ⟨h10_⟩
                have n11_ : Aside0 (gb479 ≠ gb506) := ⟨h11_⟩
                have n12_ : Aside0 (gb506 ≠ gb479) := ⟨h12_⟩
                have n13_ : Aside0 (gb493 ≠ gb506) := ⟨h13_⟩
                have n14_ : Aside0 (gb506 ≠ gb493) := ⟨h14_⟩
                have n15_ : Aside0 (Below w.heap.size w w41) := ⟨h15_⟩
                clear BK477
                clear BK478
                clear BK479
                clear BK493
                clear HB
                clear h0_ h1_ h2_ h3_ h4_ h5_ h6_ h7_ h8_ h9_ h10_ h11_ h12_ h13_ h14_ h15_
                have BK477 := n0_
                have BK478 := n1_
                have BK479 := n2_
                have BK493 := n3_
                have BK506 := n4_
                have GW506 := n5_
                have GE506 := n6_
                have NB477_506 := n7_
                have NB506_477 := n8_
                have NB478_506 := n9_
                have NB506_478 := n10_
                have NB479_506 := n11_
                have NB506_479 := n12_
                have NB493_506 := n13_
                have NB506_493 := n14_
                have HB := n15_
                clear n0_ n1_ n2_ n3_ n4_ n5_ n6_ n7_ n8_ n9_ n10_ n11_ n12_ n13_ n14_ n15_
                have hHeld : c_ w41 gb478 0 (.int .i64 t482) ∧ c_ w41 gb478 1 (.int .i64 t483) ∧ c_ w41 gb477 0 (.int .i64 t480) ∧ c_ w41 gb477 1 (.int .i64 t481) := hS_
                refine norm_ (a' := ?_) ?_ ?_
                rotate_left
                · simp only [putAll, Act.put, si, s0, s1]
                  rfl
                refine o1_ 6 (some 27) (m_ 11 639) rfl rfl (oo HT_) (fun K hK => ?_)
                refine gs_ rfl Tryd.func52 (frac_sized.calls _ _ _ _ _ A9.out) ag ?_
                intro w42 hb
                replace BK477 := bb BK477 hb
                replace BK478 := bb BK478 hb
                replace BK479 := bb BK479 hb
                replace BK493 := bb BK493 hb
                replace BK506 := bb BK506 hb
                replace HB := bs HB hb
                (try clear hb)
                refine hK.out _ _ ⟨ct BK478 0, ct BK478 1, ct BK477 0, ct BK477 1⟩ (fun hHeld => ?_)
                clear hK K
                refine nr_ (some 27) ?_
                exact norm_ (by first | (simp only [putAll, Act.put, si, s0, s1]; done) | (simp only [putAll, Act.put, si, s0, s1]; rfl)) (hJ3_6_9 (gb506) _ ⟨hHeld, (bx BK477), (bx BK478), (bx BK479), (bx BK493), (bx BK506), GW506.out, GE506.out, NB477_506.out, NB506_477.out, NB478_506.out, NB506_478.out, NB479_506.out, NB506_479.out, NB493_506.out, NB506_493.out, (bf HB)⟩)
            · skip
              rintro _ w41 ⟨hS_, h0_, h1_, h2_, h3_, h4_⟩
              have n0_ : Aside0 (w41.heap[gb477]? = some (.cells #[.int .i64 t480, .int .i64 t481] 23 (0, 0))) := ⟨h0_⟩
              have n1_ : Aside0 (w41.heap[gb478]? = some (.cells #[.int .i64 t482, .int .i64 t483] 23 (0, 0))) := ⟨h1_⟩
              have n2_ : Aside0 (w41.heap[gb479]? = some (.cells #[.int .i64 0, .int .i64 0] 23 (0, 0))) := ⟨h2_⟩
              have n3_ : Aside0 (w41.heap[gb493]? = some (.cells #[.bool t490, .int .u64 t491, .int .u64 t492] 50 (0, 0))) := ⟨h3_⟩
              have n4_ : Aside0 (Below w.heap.size w w41) := ⟨h4_⟩
              clear BK477
              clear BK478
              clear BK479
              clear BK493
              clear HB
              clear h0_ h1_ h2_ h3_ h4_
              have BK477 := n0_
              have BK478 := n1_
              have BK479 := n2_
              have BK493 := n3_
              have HB := n4_
              clear n0_ n1_ n2_ n3_ n4_
              have hHeld : c_ w41 gb478 0 (.int .i64 t482) ∧ c_ w41 gb478 1 (.int .i64 t483) ∧ c_ w41 gb477 0 (.int .i64 t480) ∧ c_ w41 gb477 1 (.int .i64 t481) := hS_
              refine norm_ (a' := ?_) ?_ ?_
              rotate_left
              · simp only [putAll, Act.put, si, s0, s1]
                rfl
              refine two_ (i := 7) (j := 9) (Ni := some 28) (Nj := some 9) (m_ 11 255) (m_ 11 639) rfl rfl rfl rfl (two_of HT_.out (by kernel_rfl)) (by decide) (by decide) (fun K hK => ?_) (fun K hK => ?_)
              · skip
                refine gs_ rfl Tryd.func57 (frac_signed_times.calls _ _ _ _ _ _ _ _ _ _ A10.out) ag ?_
                intro w42 hb
                replace BK477 := bb BK477 hb
                replace BK478 := bb BK478 hb
                replace BK479 := bb BK479 hb
                replace BK493 := bb BK493 hb
                replace HB := bs HB hb
                (try clear hb)
                refine hK.out _ _ ⟨ct BK478 0, ct BK478 1, ct BK477 0, ct BK477 1⟩ (fun hHeld => ?_)
                clear hK K
                refine nr_ (some 28) ?_
                exact norm_ (by first | (simp only [putAll, Act.put, si, s0, s1]; done) | (simp only [putAll, Act.put, si, s0, s1]; rfl)) (hJ3_6_7 () _ ⟨hHeld, (bx BK477), (bx BK478), (bx BK479), (bx BK493), (bf HB)⟩)
              · skip
                refine box_step ?hg (N := 9) ?hd (cs := #[.bool false, .int .u64 0, .int .u64 0]) (t := 50) ?hr ?_; (case hd => rfl); (case hg => rfl); (case hr => first | (go_simp; done) | (go_simp; rfl))
                intro gb506 hg w42 hbox hb
                have BK506 := Aside0.mk (hbox)
                have GW506 := bz HB hg
                have GE506 := bz HB hg
                have NB477_506 := bl BK477 hg
                have NB506_477 := bg BK477 hg
                have NB478_506 := bl BK478 hg
                have NB506_478 := bg BK478 hg
                have NB479_506 := bl BK479 hg
                have NB506_479 := bg BK479 hg
                have NB493_506 := bl BK493 hg
                have NB506_493 := bg BK493 hg
                replace BK477 := bb BK477 hb
                replace BK478 := bb BK478 hb
                replace BK479 := bb BK479 hb
                replace BK493 := bb BK493 hb
                replace HB := bs HB hb
                clear hb hg
                refine hK.out _ _ ⟨ct BK478 0, ct BK478 1, ct BK477 0, ct BK477 1⟩ (fun hHeld => ?_)
                clear hK K
                refine nr_ (some 9) ?_
                exact norm_ (by first | (simp only [putAll, Act.put, si, s0, s1]; done) | (simp only [putAll, Act.put, si, s0, s1]; rfl)) (hJ3_6_9 (gb506) _ ⟨hHeld, (bx BK477), (bx BK478), (bx BK479), (bx BK493), (bx BK506), GW506.out, GE506.out, NB477_506.out, NB506_477.out, NB478_506.out, NB506_478.out, NB479_506.out, NB506_479.out, NB493_506.out, NB506_493.out, (bf HB)⟩)
          · skip
            rintro gb506 w42 ⟨hS_, h0_, h1_, h2_, h3_, h4_, h5_, h6_, h7_, h8_, h9_, h10_, h11_, h12_, h13_, h14_, h15_⟩
            have n0_ : Aside0 (w42.heap[gb477]? = some (.cells #[.int .i64 t480, .int .i64 t481] 23 (0, 0))) := ⟨h0_⟩
            have n1_ : Aside0 (w42.heap[gb478]? = some (.cells #[.int .i64 t482, .int .i64 t483] 23 (0, 0))) := ⟨h1_⟩
            have n2_ : Aside0 (w42.heap[gb479]? = some (.cells #[.int .i64 0, .int .i64 0] 23 (0, 0))) := ⟨h2_⟩
            have n3_ : Aside0 (w42.heap[gb493]? = some (.cells #[.bool t490, .int .u64 t491, .int .u64 t492] 50 (0, 0))) := ⟨h3_⟩
            have n4_ : Aside0 (w42.heap[gb506]? = some (.cells #[.bool false, .int .u64 0, .int .u64 0] 50 (0, 0))) := ⟨h4_⟩
            have n5_ : Aside0 (w.heap.size ≤ gb506) := ⟨h5_⟩
            have n6_ : Aside0 (w.heap.size ≤ gb506) := ⟨h6_⟩
            have n7_ : Aside0 (gb477 ≠ gb506) := ⟨h7_⟩
            have n8_ : Aside0 (gb506 ≠ gb477) := ⟨h8_⟩
            have n9_ : Aside0 (gb478 ≠ gb506) := ⟨h9_⟩
            have n10_ : Aside0 (gb506 ≠ gb478) := ⟨h10_⟩
            have n11_ : Aside0 (gb479 ≠ gb506) := ⟨h11_⟩
            have n12_ : Aside0 (gb506 ≠ gb479) := ⟨h12_⟩
            have n13_ : Aside0 (gb493 ≠ gb506) := ⟨h13_⟩
            have n14_ : Aside0 (gb506 ≠ gb493) := ⟨h14_⟩
            have n15_ : Aside0 (Below w.heap.size w w42) := ⟨h15_⟩
            clear BK477
            clear BK478
            clear BK479
            clear BK493
            clear HB
            clear h0_ h1_ h2_ h3_ h4_ h5_ h6_ h7_ h8_ h9_ h10_ h11_ h12_ h13_ h14_ h15_
            have BK477 := n0_
            have BK478 := n1_
            have BK479 := n2_
            have BK493 := n3_
            have BK506 := n4_
            have GW506 := n5_
            have GE506 := n6_
            have NB477_506 := n7_
            have NB506_477 := n8_
            have NB478_506 := n9_
            have NB506_478 := n10_
            have NB479_506 := n11_
            have NB506_479 := n12_
            have NB493_506 := n13_
            have NB506_493 := n14_
            have HB := n15_
            clear n0_ n1_ n2_ n3_ n4_ n5_ n6_ n7_ n8_ n9_ n10_ n11_ n12_ n13_ n14_ n15_
            have hHeld : c_ w42 gb478 0 (.int .i64 t482) ∧ c_ w42 gb478 1 (.int .i64 t483) ∧ c_ w42 gb477 0 (.int .i64 t480) ∧ c_ w42 gb477 1 (.int .i64 t481) := hS_
            refine norm_ (a' := ?_) ?_ ?_
            rotate_left
            · simp only [putAll, Act.put, si, s0, s1]
              rfl
            refine o1_ 7 (some 28) (m_ 11 767) rfl rfl (oo HT_) (fun K hK => ?_)
            refine gs_ rfl Tryd.func57 (frac_signed_times.calls _ _ _ _ _ _ _ _ _ _ A10.out) ag ?_
            intro w43 hb
            replace BK477 := bb BK477 hb
            replace BK478 := bb BK478 hb
            replace BK479 := bb BK479 hb
            replace BK493 := bb BK493 hb
            replace BK506 := bb BK506 hb
            replace HB := bs HB hb
            (try clear hb)
            refine hK.out _ _ ⟨ct BK478 0, ct BK478 1, ct BK477 0, ct BK477 1⟩ (fun hHeld => ?_)
            clear hK K
            refine nr_ (some 28) ?_
            exact norm_ (by first | (simp only [putAll, Act.put, si, s0, s1]; done) | (simp only [putAll, Act.put, si, s0, s1]; rfl)) (hJ3_6_7_9 (gb506) _ ⟨hHeld, (bx BK477), (bx BK478), (bx BK479), (bx BK493), (bx BK506), GW506.out, GE506.out, NB477_506.out, NB506_477.out, NB478_506.out, NB506_478.out, NB479_506.out, NB506_479.out, NB493_506.out, NB506_493.out, (bf HB)⟩)
        · skip
          rintro _ w42 ⟨hS_, h0_, h1_, h2_, h3_, h4_⟩
          have n0_ : Aside0 (w42.heap[gb477]? = some (.cells #[.int .i64 t480, .int .i64 t481] 23 (0, 0))) := ⟨h0_⟩
          have n1_ : Aside0 (w42.heap[gb478]? = some (.cells #[.int .i64 t482, .int .i64 t483] 23 (0, 0))) := ⟨h1_⟩
          have n2_ : Aside0 (w42.heap[gb479]? = some (.cells #[.int .i64 0, .int .i64 0] 23 (0, 0))) := ⟨h2_⟩
          have n3_ : Aside0 (w42.heap[gb493]? = some (.cells #[.bool t490, .int .u64 t491, .int .u64 t492] 50 (0, 0))) := ⟨h3_⟩
          have n4_ : Aside0 (Below w.heap.size w w42) := ⟨h4_⟩
          clear BK477
          clear BK478
          clear BK479
          clear BK493
          clear HB
          clear h0_ h1_ h2_ h3_ h4_
          have BK477 := n0_
          have BK478 := n1_
          have BK479 := n2_
          have BK493 := n3_
          have HB := n4_
          clear n0_ n1_ n2_ n3_ n4_
          have hHeld : c_ w42 gb478 0 (.int .i64 t482) ∧ c_ w42 gb478 1 (.int .i64 t483) ∧ c_ w42 gb477 0 (.int .i64 t480) ∧ c_ w42 gb477 1 (.int .i64 t481) := hS_
          refine norm_ (a' := ?_) ?_ ?_
          rotate_left
          · simp only [putAll, Act.put, si, s0, s1]
            rfl
          refine two_ (i := 8) (j := 9) (Ni := some 29) (Nj := some 9) (m_ 11 511) (m_ 11 767) rfl rfl rfl rfl (two_of HT_.out (by kernel_rfl)) (by decide) (by decide) (fun K hK => ?_) (fun K hK => ?_)
          · skip
            refine goesU_ Tryd.func48 (by kernel_rfl) rfl #[.agg #[.bool t500, .int .u64 t501, .int .u64 t502]] (by rfl) rfl rfl rfl ag ?_
            with_reducible refine (frac_signed_opposite.calls _ _ _ _ _ _ _ A11.out).mono ?_
            rintro e w43 ⟨rfl, hb⟩
            refine ⟨_, rfl, ?_⟩
            replace BK477 := bb BK477 hb
            replace BK478 := bb BK478 hb
            replace BK479 := bb BK479 hb
            replace BK493 := bb BK493 hb
            replace HB := bs HB hb
            (try clear hb)
            refine hK.out _ _ ⟨ct BK478 0, ct BK478 1, ct BK477 0, ct BK477 1⟩ (fun hHeld => ?_)
            clear hK K
            refine nr_ (some 29) ?_
            exact norm_ (by first | (simp only [putAll, Act.put, si, s0, s1]; done) | (simp only [putAll, Act.put, si, s0, s1]; rfl)) (hJ3_6_7_8 () _ ⟨hHeld, (bx BK477), (bx BK478), (bx BK479), (bx BK493), (bf HB)⟩)
          · skip
            refine box_step ?hg (N := 9) ?hd (cs := #[.bool false, .int .u64 0, .int .u64 0]) (t := 50) ?hr ?_; (case hd => rfl); (case hg => rfl); (case hr => first | (go_simp; done) | (go_simp; rfl))
            intro gb506 hg w43 hbox hb
            have BK506 := Aside0.mk (hbox)
            have GW506 := bz HB hg
            have GE506 := bz HB hg
            have NB477_506 := bl BK477 hg
            have NB506_477 := bg BK477 hg
            have NB478_506 := bl BK478 hg
            have NB506_478 := bg BK478 hg
            have NB479_506 := bl BK479 hg
            have NB506_479 := bg BK479 hg
            have NB493_506 := bl BK493 hg
            have NB506_493 := bg BK493 hg
            replace BK477 := bb BK477 hb
            replace BK478 := bb BK478 hb
            replace BK479 := bb BK479 hb
            replace BK493 := bb BK493 hb
            replace HB := bs HB hb
            clear hb hg
            refine hK.out _ _ ⟨ct BK478 0, ct BK478 1, ct BK477 0, ct BK477 1⟩ (fun hHeld => ?_)
            clear hK K
            refine nr_ (some 9) ?_
            exact norm_ (by first | (simp only [putAll, Act.put, si, s0, s1]; done) | (simp only [putAll, Act.put, si, s0, s1]; rfl)) (hJ3_6_7_9 (gb506) _ ⟨hHeld, (bx BK477), (bx BK478), (bx BK479), (bx BK493), (bx BK506), GW506.out, GE506.out, NB477_506.out, NB506_477.out, NB478_506.out, NB506_478.out, NB479_506.out, NB506_479.out, NB493_506.out, NB506_493.out, (bf HB)⟩)
      · skip
        rintro gb506 w43 ⟨hS_, h0_, h1_, h2_, h3_, h4_, h5_, h6_, h7_, h8_, h9_, h10_, h11_, h12_, h13_, h14_, h15_⟩
        have n0_ : Aside0 (w43.heap[gb477]? = some (.cells #[.int .i64 t480, .int .i64 t481] 23 (0, 0))) := ⟨h0_⟩
        have n1_ : Aside0 (w43.heap[gb478]? = some (.cells #[.int .i64 t482, .int .i64 t483] 23 (0, 0))) := ⟨h1_⟩
        have n2_ : Aside0 (w43.heap[gb479]? = some (.cells #[.int .i64 0, .int .i64 0] 23 (0, 0))) := ⟨h2_⟩
        have n3_ : Aside0 (w43.heap[gb493]? = some (.cells #[.bool t490, .int .u64 t491, .int .u64 t492] 50 (0, 0))) := ⟨h3_⟩
        have n4_ : Aside0 (w43.heap[gb506]? = some (.cells #[.bool false, .int .u64 0, .int .u64 0] 50 (0, 0))) := ⟨h4_⟩
        have n5_ : Aside0 (w.heap.size ≤ gb506) := ⟨h5_⟩
        have n6_ : Aside0 (w.heap.size ≤ gb506) := ⟨h6_⟩
        have n7_ : Aside0 (gb477 ≠ gb506) := ⟨h7_⟩
        have n8_ : Aside0 (gb506 ≠ gb477) := ⟨h8_⟩
        have n9_ : Aside0 (gb478 ≠ gb506) := ⟨h9_⟩
        have n10_ : Aside0 (gb506 ≠ gb478) := ⟨h10_⟩
        have n11_ : Aside0 (gb479 ≠ gb506) := ⟨h11_⟩
        have n12_ : Aside0 (gb506 ≠ gb479) := ⟨h12_⟩
        have n13_ : Aside0 (gb493 ≠ gb506) := ⟨h13_⟩
        have n14_ : Aside0 (gb506 ≠ gb493) := ⟨h14_⟩
        have n15_ : Aside0 (Below w.heap.size w w43) := ⟨h15_⟩
        clear BK477
        clear BK478
        clear BK479
        clear BK493
        clear HB
        clear h0_ h1_ h2_ h3_ h4_ h5_ h6_ h7_ h8_ h9_ h10_ h11_ h12_ h13_ h14_ h15_
        have BK477 := n0_
        have BK478 := n1_
        have BK479 := n2_
        have BK493 := n3_
        have BK506 := n4_
        have GW506 := n5_
        have GE506 := n6_
        have NB477_506 := n7_
        have NB506_477 := n8_
        have NB478_506 := n9_
        have NB506_478 := n10_
        have NB479_506 := n11_
        have NB506_479 := n12_
        have NB493_506 := n13_
        have NB506_493 := n14_
        have HB := n15_
        clear n0_ n1_ n2_ n3_ n4_ n5_ n6_ n7_ n8_ n9_ n10_ n11_ n12_ n13_ n14_ n15_
        have hHeld : c_ w43 gb478 0 (.int .i64 t482) ∧ c_ w43 gb478 1 (.int .i64 t483) ∧ c_ w43 gb477 0 (.int .i64 t480) ∧ c_ w43 gb477 1 (.int .i64 t481) := hS_
        refine norm_ (a' := ?_) ?_ ?_
        rotate_left
        · simp only [putAll, Act.put, si, s0, s1]
          rfl
        refine o1_ 8 (some 29) (m_ 11 1023) rfl rfl (oo HT_) (fun K hK => ?_)
        refine goesU_ Tryd.func48 (by kernel_rfl) rfl #[.agg #[.bool t500, .int .u64 t501, .int .u64 t502]] (by rfl) rfl rfl rfl ag ?_
        with_reducible refine (frac_signed_opposite.calls _ _ _ _ _ _ _ A11.out).mono ?_
        rintro e w44 ⟨rfl, hb⟩
        refine ⟨_, rfl, ?_⟩
        replace BK477 := bb BK477 hb
        replace BK478 := bb BK478 hb
        replace BK479 := bb BK479 hb
        replace BK493 := bb BK493 hb
        replace BK506 := bb BK506 hb
        replace HB := bs HB hb
        (try clear hb)
        refine hK.out _ _ ⟨ct BK478 0, ct BK478 1, ct BK477 0, ct BK477 1⟩ (fun hHeld => ?_)
        clear hK K
        refine nr_ (some 29) ?_
        exact norm_ (by first | (simp only [putAll, Act.put, si, s0, s1]; done) | (simp only [putAll, Act.put, si, s0, s1]; rfl)) (hJ3_6_7_8_9 (gb506) _ ⟨hHeld, (bx BK477), (bx BK478), (bx BK479), (bx BK493), (bx BK506), GW506.out, GE506.out, NB477_506.out, NB506_477.out, NB478_506.out, NB506_478.out, NB479_506.out, NB506_479.out, NB493_506.out, NB506_493.out, (bf HB)⟩)
    · skip
      rintro _ w43 ⟨hS_, h0_, h1_, h2_, h3_, h4_⟩
      have n0_ : Aside0 (w43.heap[gb477]? = some (.cells #[.int .i64 t480, .int .i64 t481] 23 (0, 0))) := ⟨h0_⟩
      have n1_ : Aside0 (w43.heap[gb478]? = some (.cells #[.int .i64 t482, .int .i64 t483] 23 (0, 0))) := ⟨h1_⟩
      have n2_ : Aside0 (w43.heap[gb479]? = some (.cells #[.int .i64 0, .int .i64 0] 23 (0, 0))) := ⟨h2_⟩
      have n3_ : Aside0 (w43.heap[gb493]? = some (.cells #[.bool t490, .int .u64 t491, .int .u64 t492] 50 (0, 0))) := ⟨h3_⟩
      have n4_ : Aside0 (Below w.heap.size w w43) := ⟨h4_⟩
      clear BK477
      clear BK478
      clear BK479
      clear BK493
      clear HB
      clear h0_ h1_ h2_ h3_ h4_
      have BK477 := n0_
      have BK478 := n1_
      have BK479 := n2_
      have BK493 := n3_
      have HB := n4_
      clear n0_ n1_ n2_ n3_ n4_
      have hHeld : c_ w43 gb478 0 (.int .i64 t482) ∧ c_ w43 gb478 1 (.int .i64 t483) ∧ c_ w43 gb477 0 (.int .i64 t480) ∧ c_ w43 gb477 1 (.int .i64 t481) := hS_
      refine norm_ (a' := ?_) ?_ ?_
      rotate_left
      · simp only [putAll, Act.put, si, s0, s1]
        rfl
      refine o1_ 9 (some 9) (m_ 11 1023) rfl rfl (oo HT_) (fun K hK => ?_)
      refine box_step ?hg (N := 9) ?hd (cs := #[.bool false, .int .u64 0, .int .u64 0]) (t := 50) ?hr ?_; (case hd => rfl); (case hg => rfl); (case hr => first | (go_simp; done) | (go_simp; rfl))
      intro gb506 hg w44 hbox hb
      have BK506 := Aside0.mk (hbox)
      have GW506 := bz HB hg
      have GE506 := bz HB hg
      have NB477_506 := bl BK477 hg
      have NB506_477 := bg BK477 hg
      have NB478_506 := bl BK478 hg
      have NB506_478 := bg BK478 hg
      have NB479_506 := bl BK479 hg
      have NB506_479 := bg BK479 hg
      have NB493_506 := bl BK493 hg
      have NB506_493 := bg BK493 hg
      replace BK477 := bb BK477 hb
      replace BK478 := bb BK478 hb
      replace BK479 := bb BK479 hb
      replace BK493 := bb BK493 hb
      replace HB := bs HB hb
      clear hb hg
      refine hK.out _ _ ⟨ct BK478 0, ct BK478 1, ct BK477 0, ct BK477 1⟩ (fun hHeld => ?_)
      clear hK K
      refine nr_ (some 9) ?_
      exact norm_ (by first | (simp only [putAll, Act.put, si, s0, s1]; done) | (simp only [putAll, Act.put, si, s0, s1]; rfl)) (hJ3_6_7_8_9 (gb506) _ ⟨hHeld, (bx BK477), (bx BK478), (bx BK479), (bx BK493), (bx BK506), GW506.out, GE506.out, NB477_506.out, NB506_477.out, NB478_506.out, NB506_478.out, NB479_506.out, NB506_479.out, NB493_506.out, NB506_493.out, (bf HB)⟩)
  rintro gb506 w44 ⟨hS_, h0_, h1_, h2_, h3_, h4_, h5_, h6_, h7_, h8_, h9_, h10_, h11_, h12_, h13_, h14_, h15_⟩
  have n0_ : Aside0 (w44.heap[gb477]? = some (.cells #[.int .i64 t480, .int .i64 t481] 23 (0, 0))) := ⟨h0_⟩
  have n1_ : Aside0 (w44.heap[gb478]? = some (.cells #[.int .i64 t482, .int .i64 t483] 23 (0, 0))) := ⟨h1_⟩
  have n2_ : Aside0 (w44.heap[gb479]? = some (.cells #[.int .i64 0, .int .i64 0] 23 (0, 0))) := ⟨h2_⟩
  have n3_ : Aside0 (w44.heap[gb493]? = some (.cells #[.bool t490, .int .u64 t491, .int .u64 t492] 50 (0, 0))) := ⟨h3_⟩
  have n4_ : Aside0 (w44.heap[gb506]? = some (.cells #[.bool false, .int .u64 0, .int .u64 0] 50 (0, 0))) := ⟨h4_⟩
  have n5_ : Aside0 (w.heap.size ≤ gb506) := ⟨h5_⟩
  have n6_ : Aside0 (w.heap.size ≤ gb506) := ⟨h6_⟩
  have n7_ : Aside0 (gb477 ≠ gb506) := ⟨h7_⟩
  have n8_ : Aside0 (gb506 ≠ gb477) := ⟨h8_⟩
  have n9_ : Aside0 (gb478 ≠ gb506) := ⟨h9_⟩
  have n10_ : Aside0 (gb506 ≠ gb478) := ⟨h10_⟩
  have n11_ : Aside0 (gb479 ≠ gb506) := ⟨h11_⟩
  have n12_ : Aside0 (gb506 ≠ gb479) := ⟨h12_⟩
  have n13_ : Aside0 (gb493 ≠ gb506) := ⟨h13_⟩
  have n14_ : Aside0 (gb506 ≠ gb493) := ⟨h14_⟩
  have n15_ : Aside0 (Below w.heap.size w w44) := ⟨h15_⟩
  clear BK477
  clear BK478
  clear BK479
  clear BK493
  clear HB
  clear h0_ h1_ h2_ h3_ h4_ h5_ h6_ h7_ h8_ h9_ h10_ h11_ h12_ h13_ h14_ h15_
  have BK477 := n0_
  have BK478 := n1_
  have BK479 := n2_
  have BK493 := n3_
  have BK506 := n4_
  have GW506 := n5_
  have GE506 := n6_
  have NB477_506 := n7_
  have NB506_477 := n8_
  have NB478_506 := n9_
  have NB506_478 := n10_
  have NB479_506 := n11_
  have NB506_479 := n12_
  have NB493_506 := n13_
  have NB506_493 := n14_
  have HB := n15_
  clear n0_ n1_ n2_ n3_ n4_ n5_ n6_ n7_ n8_ n9_ n10_ n11_ n12_ n13_ n14_ n15_
  have hHeld : c_ w44 gb478 0 (.int .i64 t482) ∧ c_ w44 gb478 1 (.int .i64 t483) ∧ c_ w44 gb477 0 (.int .i64 t480) ∧ c_ w44 gb477 1 (.int .i64 t481) := hS_
  refine norm_ (a' := ?_) ?_ ?_
  rotate_left
  · simp only [putAll, Act.put, si, s0, s1]
    rfl
  refine o1_ 10 (none) (m_ 11 2047) rfl rfl (oo HT_) (fun K hK => ?_)
  have hs45 : c_ w44 gb506 0 (.bool false) := ct BK506 0
  have hfs45 := blk_frozen BK506.out 0
  have hns45_0 := NB477_506.out
  have hns45_1 := NB478_506.out
  have hns45_2 := NB479_506.out
  have hns45_3 := NB493_506.out
  have hms45_0 := NB506_477.out
  have hms45_1 := NB506_478.out
  have hms45_2 := NB506_479.out
  have hms45_3 := NB506_493.out
  have hs46 : c_ w44 gb506 1 (.int .u64 0) := ct BK506 1
  have hfs46 := blk_frozen BK506.out 1
  have hns46_0 := NB477_506.out
  have hns46_1 := NB478_506.out
  have hns46_2 := NB479_506.out
  have hns46_3 := NB493_506.out
  have hms46_0 := NB506_477.out
  have hms46_1 := NB506_478.out
  have hms46_2 := NB506_479.out
  have hms46_3 := NB506_493.out
  have hs47 : c_ w44 gb506 2 (.int .u64 0) := ct BK506 2
  have hfs47 := blk_frozen BK506.out 2
  have hns47_0 := NB477_506.out
  have hns47_1 := NB478_506.out
  have hns47_2 := NB479_506.out
  have hns47_3 := NB493_506.out
  have hms47_0 := NB506_477.out
  have hms47_1 := NB506_478.out
  have hms47_2 := NB506_479.out
  have hms47_3 := NB506_493.out
  refine skip_ (w1 := ?_) (by rfl) rfl ?_ ?_
  rotate_left
  · go_simp
    rfl
  refine hK.out _ _ ⟨((cell_far (p := ⟨gb506, _, none⟩) NB478_506.out _).trans (((cell_far (p := ⟨gb506, _, none⟩) NB478_506.out _).trans (((cell_far (p := ⟨gb506, _, none⟩) NB478_506.out _).trans (hHeld.1)))))), ((cell_far (p := ⟨gb506, _, none⟩) NB478_506.out _).trans (((cell_far (p := ⟨gb506, _, none⟩) NB478_506.out _).trans (((cell_far (p := ⟨gb506, _, none⟩) NB478_506.out _).trans (hHeld.2.1)))))), ((cell_far (p := ⟨gb506, _, none⟩) NB477_506.out _).trans (((cell_far (p := ⟨gb506, _, none⟩) NB477_506.out _).trans (((cell_far (p := ⟨gb506, _, none⟩) NB477_506.out _).trans (hHeld.2.2.1)))))), ((cell_far (p := ⟨gb506, _, none⟩) NB477_506.out _).trans (((cell_far (p := ⟨gb506, _, none⟩) NB477_506.out _).trans (((cell_far (p := ⟨gb506, _, none⟩) NB477_506.out _).trans (hHeld.2.2.2))))))⟩ (fun hHeld => ?_)
  clear hK K
  refine done_ (done_of HT_.out (by kernel_rfl)) ?_
  try go_wp2
  have n0_ : Aside0 ((((w44.setCell ⟨gb506, 0, none⟩ (.bool t503)).setCell ⟨gb506, 1, none⟩ (.int .u64 t504)).setCell ⟨gb506, 2, none⟩ (.int .u64 t505)).heap[gb477]? = some (.cells #[.int .i64 t480, .int .i64 t481] 23 (0, 0))) := bu_ BK477
  have n1_ : Aside0 ((((w44.setCell ⟨gb506, 0, none⟩ (.bool t503)).setCell ⟨gb506, 1, none⟩ (.int .u64 t504)).setCell ⟨gb506, 2, none⟩ (.int .u64 t505)).heap[gb478]? = some (.cells #[.int .i64 t482, .int .i64 t483] 23 (0, 0))) := bu_ BK478
  have n2_ : Aside0 ((((w44.setCell ⟨gb506, 0, none⟩ (.bool t503)).setCell ⟨gb506, 1, none⟩ (.int .u64 t504)).setCell ⟨gb506, 2, none⟩ (.int .u64 t505)).heap[gb479]? = some (.cells #[.int .i64 0, .int .i64 0] 23 (0, 0))) := bu_ BK479
  have n3_ : Aside0 ((((w44.setCell ⟨gb506, 0, none⟩ (.bool t503)).setCell ⟨gb506, 1, none⟩ (.int .u64 t504)).setCell ⟨gb506, 2, none⟩ (.int .u64 t505)).heap[gb493]? = some (.cells #[.bool t490, .int .u64 t491, .int .u64 t492] 50 (0, 0))) := bu_ BK493
  have n4_ : Aside0 ((((w44.setCell ⟨gb506, 0, none⟩ (.bool t503)).setCell ⟨gb506, 1, none⟩ (.int .u64 t504)).setCell ⟨gb506, 2, none⟩ (.int .u64 t505)).heap[gb506]? = some (.cells #[.bool t503, .int .u64 t504, .int .u64 t505] 50 (0, 0))) := bq_ BK506
  have n5_ : Aside0 (Below w.heap.size w (((w44.setCell ⟨gb506, 0, none⟩ (.bool t503)).setCell ⟨gb506, 1, none⟩ (.int .u64 t504)).setCell ⟨gb506, 2, none⟩ (.int .u64 t505))) := ⟨bf HB⟩
  (try clear BK477); (try clear BK478); (try clear BK479); (try clear BK493); (try clear BK506); (try clear HB)
  generalize (((w44.setCell ⟨gb506, 0, none⟩ (.bool t503)).setCell ⟨gb506, 1, none⟩ (.int .u64 t504)).setCell ⟨gb506, 2, none⟩ (.int .u64 t505)) = w48 at n0_ n1_ n2_ n3_ n4_ n5_ ⊢
  have BK477 := n0_
  have BK478 := n1_
  have BK479 := n2_
  have BK493 := n3_
  have BK506 := n4_
  have HB := n5_
  clear n0_ n1_ n2_ n3_ n4_ n5_
  replace BK477 := Aside0.mk (blk_drew BK477.out)
  replace BK478 := Aside0.mk (blk_drew BK478.out)
  replace BK479 := Aside0.mk (blk_drew BK479.out)
  replace BK493 := Aside0.mk (blk_drew BK493.out)
  replace BK506 := Aside0.mk (blk_drew BK506.out)
  replace HB := Aside0.mk (below_drew1 HB.out)
  refine start_ (n := 15) (S := fun w' => c_ w' gb493 0 (.bool t490) ∧ c_ w' gb493 1 (.int .u64 t491) ∧ c_ w' gb493 2 (.int .u64 t492) ∧ c_ w' gb506 0 (.bool t503) ∧ c_ w' gb506 1 (.int .u64 t504) ∧ c_ w' gb506 2 (.int .u64 t505) ∧ c_ w' gb477 0 (.int .i64 t480) ∧ c_ w' gb477 1 (.int .i64 t481) ∧ c_ w' gb478 0 (.int .i64 t482) ∧ c_ w' gb478 1 (.int .i64 t483)) (ds := []) (m_ 15 0) (by kernel_rfl) rfl rfl ⟨ct BK493 0, ct BK493 1, ct BK493 2, ct BK506 0, ct BK506 1, ct BK506 2, ct BK477 0, ct BK477 1, ct BK478 0, ct BK478 1⟩ (fun hHeld => ?_); refine with_tabW frac_added_fn48.tab4 frac_added_fn48.bits4 (fun HT_ HW_ => ?_)
  generalize w48.drew = w49 at BK477 BK478 BK479 BK493 BK506 HB hHeld ⊢
  refine pu_ 3 (some 33) (m_ 15 8) rfl rfl (ao HT_) ?_
  refine pu_ 6 (some 36) (m_ 15 72) rfl rfl (ao HT_) ?_
  refine tk_ 0 (some 30) (m_ 15 73) rfl rfl (tw HT_ HW_) hHeld ?_
  refine tk_ 1 (some 31) (m_ 15 75) rfl rfl (tw HT_ HW_) hHeld ?_
  refine tk_ 4 (some 34) (m_ 15 91) rfl rfl (tw HT_ HW_) hHeld ?_
  refine tk_ 7 (some 37) (m_ 15 219) rfl rfl (tw HT_ HW_) hHeld ?_
  refine o1_ 2 (some 32) (m_ 15 223) rfl rfl (oo HT_) (fun K hK => ?_)
  refine gs_ rfl Tryd.func67 (frac_signed_plus.calls _ _ _ _ _ _ _ _ _ _ A12.out) ag ?_
  intro w50 hb
  replace BK477 := bb BK477 hb
  replace BK478 := bb BK478 hb
  replace BK479 := bb BK479 hb
  replace BK493 := bb BK493 hb
  replace BK506 := bb BK506 hb
  replace HB := bs HB hb
  (try clear hb)
  refine hK.out _ _ ⟨ct BK493 0, ct BK493 1, ct BK493 2, ct BK506 0, ct BK506 1, ct BK506 2, ct BK477 0, ct BK477 1, ct BK478 0, ct BK478 1⟩ (fun hHeld => ?_)
  clear hK K
  refine nr_ (some 32) ?_
  refine o1_ 5 (some 35) (m_ 15 255) rfl rfl (oo HT_) (fun K hK => ?_)
  refine gs_ rfl Tryd.func52 (frac_sized.calls _ _ _ _ _ A13.out) ag ?_
  intro w51 hb
  replace BK477 := bb BK477 hb
  replace BK478 := bb BK478 hb
  replace BK479 := bb BK479 hb
  replace BK493 := bb BK493 hb
  replace BK506 := bb BK506 hb
  replace HB := bs HB hb
  (try clear hb)
  refine hK.out _ _ ⟨ct BK493 0, ct BK493 1, ct BK493 2, ct BK506 0, ct BK506 1, ct BK506 2, ct BK477 0, ct BK477 1, ct BK478 0, ct BK478 1⟩ (fun hHeld => ?_)
  clear hK K
  refine nr_ (some 35) ?_
  refine o1_ 8 (some 38) (m_ 15 511) rfl rfl (oo HT_) (fun K hK => ?_)
  refine gs_ rfl Tryd.func52 (frac_sized.calls _ _ _ _ _ A14.out) ag ?_
  intro w52 hb
  replace BK477 := bb BK477 hb
  replace BK478 := bb BK478 hb
  replace BK479 := bb BK479 hb
  replace BK493 := bb BK493 hb
  replace BK506 := bb BK506 hb
  replace HB := bs HB hb
  (try clear hb)
  refine hK.out _ _ ⟨ct BK493 0, ct BK493 1, ct BK493 2, ct BK506 0, ct BK506 1, ct BK506 2, ct BK477 0, ct BK477 1, ct BK478 0, ct BK478 1⟩ (fun hHeld => ?_)
  clear hK K
  refine nr_ (some 38) ?_
  refine o1_ 9 (some 39) (m_ 15 1023) rfl rfl (oo HT_) (fun K hK => ?_)
  refine gs_ rfl Tryd.func57 (frac_signed_times.calls _ _ _ _ _ _ _ _ _ _ A15.out) ag ?_
  intro w53 hb
  replace BK477 := bb BK477 hb
  replace BK478 := bb BK478 hb
  replace BK479 := bb BK479 hb
  replace BK493 := bb BK493 hb
  replace BK506 := bb BK506 hb
  replace HB := bs HB hb
  (try clear hb)
  refine hK.out _ _ ⟨ct BK493 0, ct BK493 1, ct BK493 2, ct BK506 0, ct BK506 1, ct BK506 2, ct BK477 0, ct BK477 1, ct BK478 0, ct BK478 1⟩ (fun hHeld => ?_)
  clear hK K
  refine nr_ (some 39) ?_
  refine o1_ 10 (some 40) (m_ 15 2047) rfl rfl (oo HT_) (fun K hK => ?_)
  refine gs_ rfl Tryd.func51 (frac_reduced.calls _ _ _ _ _ _ _ _ _ _ _ A16.out (tt GT)) ag ?_
  intro w54 hb
  replace BK477 := bb BK477 hb
  replace BK478 := bb BK478 hb
  replace BK479 := bb BK479 hb
  replace BK493 := bb BK493 hb
  replace BK506 := bb BK506 hb
  replace HB := bs HB hb
  (try clear hb)
  refine hK.out _ _ ⟨ct BK493 0, ct BK493 1, ct BK493 2, ct BK506 0, ct BK506 1, ct BK506 2, ct BK477 0, ct BK477 1, ct BK478 0, ct BK478 1⟩ (fun hHeld => ?_)
  clear hK K
  refine nr_ (some 40) ?_
  refine pu_ 11 (some 41) (m_ 15 4095) rfl rfl (ao HT_) ?_
  refine pu_ 12 (some 42) (m_ 15 8191) rfl rfl (ao HT_) ?_
  refine o1_ 13 (none) (m_ 15 16383) rfl rfl (oo HT_) (fun K hK => ?_)
  have hs55 : c_ w54 gb479 0 (.int .i64 0) := ct BK479 0
  have hfs55 := blk_frozen BK479.out 0
  have hns55_0 := NB477_479.out
  have hns55_1 := NB478_479.out
  have hns55_3 := NB493_479.out
  have hns55_4 := NB506_479.out
  have hms55_0 := NB479_477.out
  have hms55_1 := NB479_478.out
  have hms55_3 := NB479_493.out
  have hms55_4 := NB479_506.out
  have hs56 : c_ w54 gb479 1 (.int .i64 0) := ct BK479 1
  have hfs56 := blk_frozen BK479.out 1
  have hns56_0 := NB477_479.out
  have hns56_1 := NB478_479.out
  have hns56_3 := NB493_479.out
  have hns56_4 := NB506_479.out
  have hms56_0 := NB479_477.out
  have hms56_1 := NB479_478.out
  have hms56_3 := NB479_493.out
  have hms56_4 := NB479_506.out
  refine skip_ (w1 := ?_) (by rfl) rfl ?_ ?_
  rotate_left
  · go_simp
    rfl
  refine hK.out _ _ ⟨((cell_far (p := ⟨gb479, _, none⟩) NB493_479.out _).trans (((cell_far (p := ⟨gb479, _, none⟩) NB493_479.out _).trans (hHeld.1)))), ((cell_far (p := ⟨gb479, _, none⟩) NB493_479.out _).trans (((cell_far (p := ⟨gb479, _, none⟩) NB493_479.out _).trans (hHeld.2.1)))), ((cell_far (p := ⟨gb479, _, none⟩) NB493_479.out _).trans (((cell_far (p := ⟨gb479, _, none⟩) NB493_479.out _).trans (hHeld.2.2.1)))), ((cell_far (p := ⟨gb479, _, none⟩) NB506_479.out _).trans (((cell_far (p := ⟨gb479, _, none⟩) NB506_479.out _).trans (hHeld.2.2.2.1)))), ((cell_far (p := ⟨gb479, _, none⟩) NB506_479.out _).trans (((cell_far (p := ⟨gb479, _, none⟩) NB506_479.out _).trans (hHeld.2.2.2.2.1)))), ((cell_far (p := ⟨gb479, _, none⟩) NB506_479.out _).trans (((cell_far (p := ⟨gb479, _, none⟩) NB506_479.out _).trans (hHeld.2.2.2.2.2.1)))), ((cell_far (p := ⟨gb479, _, none⟩) NB477_479.out _).trans (((cell_far (p := ⟨gb479, _, none⟩) NB477_479.out _).trans (hHeld.2.2.2.2.2.2.1)))), ((cell_far (p := ⟨gb479, _, none⟩) NB477_479.out _).trans (((cell_far (p := ⟨gb479, _, none⟩) NB477_479.out _).trans (hHeld.2.2.2.2.2.2.2.1)))), ((cell_far (p := ⟨gb479, _, none⟩) NB478_479.out _).trans (((cell_far (p := ⟨gb479, _, none⟩) NB478_479.out _).trans (hHeld.2.2.2.2.2.2.2.2.1)))), ((cell_far (p := ⟨gb479, _, none⟩) NB478_479.out _).trans (((cell_far (p := ⟨gb479, _, none⟩) NB478_479.out _).trans (hHeld.2.2.2.2.2.2.2.2.2))))⟩ (fun hHeld => ?_)
  clear hK K
  refine pu_ 14 (some 7) (m_ 15 32767) rfl rfl (ao HT_) ?_
  refine done_ (done_of HT_.out (by kernel_rfl)) ?_
  try go_wp2
  refine bodyPost_ret (results_ct rfl _ _ gb479 23 #[.int .i64 t519, .int .i64 t520] (0, 0) _ rfl (br_ BK479) Tryd.underlying23 rfl (by kernel_rfl)) rfl ?_
  exact ⟨ae, bf HB⟩

end Go.Proofs.YtjgnaccamakpdaaDoor.X
