/- Walks: each '.calls' says that the Go function comes to what its Lean function tells. Conditions: as each theorem's head says. -/
import Derived.Test.YtjgnaccamakpdaaDoorXD
import Derived.Test.YtjgnaccamakpdaaDoorX0
import Derived.Test.YtjgnaccamakpdaaDoorX7
import Derived.Test.YtjgnaccamakpdaaDoorX8
import Derived.Test.YtjgnaccamakpdaaDoorX9
namespace Go.Proofs.YtjgnaccamakpdaaDoor.X
open Go.RowKit Go.Proofs.YtjgnaccamakpdaaDoorW.PrintWords Go.Proofs.YtjgnaccamakpdaaDoorW.PrintLast Go.Proofs.YtjgnaccamakpdaaDoorW.PrintMore
attribute [local go_sem] max2_int min2_int max_two min_two max_three min_three max_four min_four   -- for this text's walks alone
set_option linter.unusedVariables false
set_option maxHeartbeats 8000000
set_option maxRecDepth 100000
set_option linter.unusedSimpArgs false

/-! ### frac_added_fn38: function 900000 -/
def frac_added_fn38.T2 : Bool × List (List Nat × List Nat) := (true, [([], []), ([0], [0]), ([1], [1]), ([], []), ([3], [3]), ([4, 2], [4]), ([2, 5, 5], [2, 5]), ([], []), ([7, 6, 6, 0, 1, 2, 3, 4, 5, 6, 7], [6, 7])])
def frac_added_fn38.B2 : List Nat := [0, 1, 3, 0, 8, 31, 63, 0, 255]
theorem frac_added_fn38.tab2 : rtab .any (opsOf Tryd.f37 2) = frac_added_fn38.T2 := by kernel_rfl
theorem frac_added_fn38.bits2 : waitsOk frac_added_fn38.T2.2 frac_added_fn38.B2 = true := by kernel_rfl
def frac_added_fn38.T3 : Bool × List (List Nat × List Nat) := (true, [([], []), ([], []), ([1], [1]), ([2], [2]), ([], []), ([4], [4]), ([5, 3], [5]), ([3, 6, 6], [3, 6]), ([0, 7, 7], [0, 7]), ([], []), ([9, 8, 8, 0, 1, 2, 3, 4, 5, 6, 7, 8, 9], [8, 9])])
def frac_added_fn38.B3 : List Nat := [0, 0, 2, 6, 0, 16, 62, 126, 255, 0, 1023]
theorem frac_added_fn38.tab3 : rtab .any (opsOf Tryd.f37 3) = frac_added_fn38.T3 := by kernel_rfl
theorem frac_added_fn38.bits3 : waitsOk frac_added_fn38.T3.2 frac_added_fn38.B3 = true := by kernel_rfl
def frac_added_fn38.T4 : Bool × List (List Nat × List Nat) := (true, [([], []), ([], []), ([0, 1], [0, 1]), ([], []), ([3], [3]), ([4, 2], [4]), ([], []), ([6], [6]), ([7, 5], [7]), ([5, 8, 8], [5, 8]), ([2, 9, 9], [2, 9]), ([10], [10]), ([10], [10]), ([11, 10, 0, 1, 2, 3, 4, 5, 6, 7, 8, 9, 10, 11, 12], [11]), ([12, 13, 0, 1, 2, 3, 4, 5, 6, 7, 8, 9, 10, 11, 12, 13], [12])])
def frac_added_fn38.B4 : List Nat := [0, 0, 3, 0, 8, 31, 0, 64, 255, 511, 1023, 2047, 2047, 8191, 16383]
theorem frac_added_fn38.tab4 : rtab .any (opsOf Tryd.f37 4) = frac_added_fn38.T4 := by kernel_rfl
theorem frac_added_fn38.bits4 : waitsOk frac_added_fn38.T4.2 frac_added_fn38.B4 = true := by kernel_rfl
theorem frac_added_fn38.calls (k : Nat) (a0_0 : Int) (a0_1 : Int) (a1_0 : Int) (a1_1 : Int) (r1 : Int) (r2 : Int) (r3 : Int) (w : World) (h : frac_added_fn38.f k a0_0 a0_1 a1_0 a1_1 = some (r1, r2, r3)) (hT : TabOK w) :
    Calls Tryd.prog 37 #[.agg #[.int .i64 a0_0, .int .i64 a0_1], .agg #[.int .i64 a1_0, .int .i64 a1_1], .func (.func 38) #[] #[]] w fun e w' => e = .returned (.tuple #[.agg #[.int .i64 r1, .int .i64 r2], .int .i64 r3]) ∧ Below w.heap.size w w' := by
  have GT := Aside0.mk hT
  clear hT
  have hu23 := Tryd.underlying23
  have hu50 := Tryd.underlying50
  have HB := Aside0.mk (Below.refl w.heap.size w)
  have H : ((frac_norm.f k a0_0 a0_1).bind fun bt221 => ((frac_norm.f k a1_0 a1_1).bind fun bt223 => ((frac_sized.f bt221.1).bind fun bt225 => ((frac_sized.f bt223.2).bind fun bt228 => ((frac_signed_times.f bt225.1 bt225.2.1 bt225.2.2 bt228.1 bt228.2.1 bt228.2.2).bind fun bt231 => ((frac_sized.f bt223.1).bind fun bt235 => ((frac_sized.f bt221.2).bind fun bt238 => ((frac_signed_times.f bt235.1 bt235.2.1 bt235.2.2 bt238.1 bt238.2.1 bt238.2.2).bind fun bt241 => ((frac_Add_1.f bt241.1 bt241.2.1 bt241.2.2).bind fun bt244 => ((frac_signed_plus.f bt231.1 bt231.2.1 bt231.2.2 bt244.1 bt244.2.1 bt244.2.2).bind fun bt248 => ((frac_sized.f bt221.2).bind fun bt251 => ((frac_sized.f bt223.2).bind fun bt254 => ((frac_signed_times.f bt251.1 bt251.2.1 bt251.2.2 bt254.1 bt254.2.1 bt254.2.2).bind fun bt257 => ((frac_reduced.f k bt248.1 bt248.2.1 bt248.2.2 bt257.1 bt257.2.1 bt257.2.2).bind fun bt260 => (some (bt260.1, bt260.2.1, bt260.2.2)))))))))))))))) = some (r1, r2, r3) := h
  clear h
  replace H := bi_ H; obtain ⟨⟨t221, t222⟩, A3, H⟩ := H
  (try dsimp only at H)
  replace H := bi_ H; obtain ⟨⟨t223, t224⟩, A4, H⟩ := H
  (try dsimp only at H)
  replace H := bi_ H; obtain ⟨⟨t225, t226, t227⟩, A5, H⟩ := H
  (try dsimp only at H)
  replace H := bi_ H; obtain ⟨⟨t228, t229, t230⟩, A6, H⟩ := H
  (try dsimp only at H)
  replace H := bi_ H; obtain ⟨⟨t231, t232, t233⟩, A7, H⟩ := H
  (try dsimp only at H)
  replace H := bi_ H; obtain ⟨⟨t235, t236, t237⟩, A8, H⟩ := H
  (try dsimp only at H)
  replace H := bi_ H; obtain ⟨⟨t238, t239, t240⟩, A9, H⟩ := H
  (try dsimp only at H)
  replace H := bi_ H; obtain ⟨⟨t241, t242, t243⟩, A10, H⟩ := H
  (try dsimp only at H)
  replace H := bi_ H; obtain ⟨⟨t244, t245, t246⟩, A11, H⟩ := H
  (try dsimp only at H)
  replace H := bi_ H; obtain ⟨⟨t248, t249, t250⟩, A12, H⟩ := H
  (try dsimp only at H)
  replace H := bi_ H; obtain ⟨⟨t251, t252, t253⟩, A13, H⟩ := H
  (try dsimp only at H)
  replace H := bi_ H; obtain ⟨⟨t254, t255, t256⟩, A14, H⟩ := H
  (try dsimp only at H)
  replace H := bi_ H; obtain ⟨⟨t257, t258, t259⟩, A15, H⟩ := H
  (try dsimp only at H)
  replace H := bi_ H; obtain ⟨⟨t260, t261, t262⟩, A16, H⟩ := H
  (try dsimp only at H)
  simp only [Option.some.injEq, Prod.mk.injEq] at H
  obtain ⟨rfl, rfl, rfl⟩ := H
  go_enter Tryd.func37, Tryd.ntmps37
  try go_wp2_with (first | ((with_reducible refine gd 3 rfl ?_); refine bx_ 3 23 #[.int .i64 a0_0, .int .i64 a0_1] rfl rfl ?_; intro gb218 hg w17 BK218 hb; have GE218 := bz HB hg; replace HB := bs HB hb; clear hb hg) | ((with_reducible refine gd 4 rfl ?_); refine bx_ 4 23 #[.int .i64 a1_0, .int .i64 a1_1] rfl rfl ?_; intro gb219 hg w18 BK219 hb; have GE219 := bz HB hg; have ⟨NB218_219, NB219_218⟩ := nb BK218 hg; replace BK218 := bb BK218 hb; replace HB := bs HB hb; clear hb hg) | ((with_reducible refine gd 6 rfl ?_); refine bx_ 6 23 #[.int .i64 0, .int .i64 0] rfl rfl ?_; intro gb220 hg w19 BK220 hb; have GE220 := bz HB hg; have ⟨NB218_220, NB220_218⟩ := nb BK218 hg; have ⟨NB219_220, NB220_219⟩ := nb BK219 hg; replace BK218 := bb BK218 hb; replace BK219 := bb BK219 hb; replace HB := bs HB hb; clear hb hg))
  replace BK218 := Aside0.mk (blk_drew BK218.out)
  replace BK219 := Aside0.mk (blk_drew BK219.out)
  replace BK220 := Aside0.mk (blk_drew BK220.out)
  replace HB := Aside0.mk (below_drew1 HB.out)
  refine start_ (n := 6) (S := fun w' => c_ w' gb218 0 (.int .i64 a0_0) ∧ c_ w' gb218 1 (.int .i64 a0_1) ∧ c_ w' gb219 0 (.int .i64 a1_0) ∧ c_ w' gb219 1 (.int .i64 a1_1)) (ds := [4, 5]) (m_ 6 0) (by kernel_rfl) rfl rfl ⟨ct BK218 0, ct BK218 1, ct BK219 0, ct BK219 1⟩ (fun hHeld => ?_)
  generalize w19.drew = w20 at BK218 BK219 BK220 HB hHeld ⊢
  refine tk_ 0 (some 10) (m_ 6 1) rfl rfl (by kernel_rfl) hHeld ?_
  refine tk_ 2 (some 12) (m_ 6 5) rfl rfl (by kernel_rfl) hHeld ?_
  refine o1_ 1 (some 11) (m_ 6 7) rfl rfl (by kernel_rfl) (fun K hK => ?_)
  refine gs_ rfl Tryd.func56 (frac_norm.calls _ _ _ _ _ _ A3.out (tt GT)) ag ?_
  intro w21 hb
  replace BK218 := bb BK218 hb
  replace BK219 := bb BK219 hb
  replace BK220 := bb BK220 hb
  replace HB := bs HB hb
  (try clear hb)
  refine hK.out _ _ ⟨ct BK218 0, ct BK218 1, ct BK219 0, ct BK219 1⟩ (fun hHeld => ?_)
  clear hK K
  refine nr_ (some 11) ?_
  refine o1_ 3 (some 13) (m_ 6 15) rfl rfl (by kernel_rfl) (fun K hK => ?_)
  refine gs_ rfl Tryd.func56 (frac_norm.calls _ _ _ _ _ _ A4.out (tt GT)) ag ?_
  intro w22 hb
  replace BK218 := bb BK218 hb
  replace BK219 := bb BK219 hb
  replace BK220 := bb BK220 hb
  replace HB := bs HB hb
  (try clear hb)
  refine hK.out _ _ ⟨ct BK218 0, ct BK218 1, ct BK219 0, ct BK219 1⟩ (fun hHeld => ?_)
  clear hK K
  refine nr_ (some 13) ?_
  refine last_ (i := 4) (N := none) (m_ 6 31) rfl rfl (by kernel_rfl) (by decide) (fun K hK => ?_)
  have hs23 : c_ w22 gb218 0 (.int .i64 a0_0) := ct BK218 0
  have hfs23 := blk_frozen BK218.out 0
  have hns23_1 := NB219_218.out
  have hns23_2 := NB220_218.out
  have hms23_1 := NB218_219.out
  have hms23_2 := NB218_220.out
  have hs24 : c_ w22 gb218 1 (.int .i64 a0_1) := ct BK218 1
  have hfs24 := blk_frozen BK218.out 1
  have hns24_1 := NB219_218.out
  have hns24_2 := NB220_218.out
  have hms24_1 := NB218_219.out
  have hms24_2 := NB218_220.out
  refine skip_ (w1 := ?_) (by rfl) rfl ?_ ?_
  rotate_left
  · go_simp
    rfl
  refine hK.out _ _ ?_
  clear hK K
  refine last_ (i := 5) (N := none) (m_ 6 63) rfl rfl (by kernel_rfl) (by decide) (fun K hK => ?_)
  have hs25 : c_ w22 gb219 0 (.int .i64 a1_0) := ct BK219 0
  have hfs25 := blk_frozen BK219.out 0
  have hns25_0 := NB218_219.out
  have hns25_2 := NB220_219.out
  have hms25_0 := NB219_218.out
  have hms25_2 := NB219_220.out
  have hs26 : c_ w22 gb219 1 (.int .i64 a1_1) := ct BK219 1
  have hfs26 := blk_frozen BK219.out 1
  have hns26_0 := NB218_219.out
  have hns26_2 := NB220_219.out
  have hms26_0 := NB219_218.out
  have hms26_2 := NB219_220.out
  refine skip_ (w1 := ?_) (by rfl) rfl ?_ ?_
  rotate_left
  · go_simp
    rfl
  refine hK.out _ _ ?_
  clear hK K
  refine done_ (by kernel_rfl) ?_
  try go_wp2
  have n0_ : Aside0 (((((w22.setCell ⟨gb218, 0, none⟩ (.int .i64 t221)).setCell ⟨gb218, 1, none⟩ (.int .i64 t222)).setCell ⟨gb219, 0, none⟩ (.int .i64 t223)).setCell ⟨gb219, 1, none⟩ (.int .i64 t224)).heap[gb218]? = some (.cells #[.int .i64 t221, .int .i64 t222] 23 (0, 0))) := bq_ BK218
  have n1_ : Aside0 (((((w22.setCell ⟨gb218, 0, none⟩ (.int .i64 t221)).setCell ⟨gb218, 1, none⟩ (.int .i64 t222)).setCell ⟨gb219, 0, none⟩ (.int .i64 t223)).setCell ⟨gb219, 1, none⟩ (.int .i64 t224)).heap[gb219]? = some (.cells #[.int .i64 t223, .int .i64 t224] 23 (0, 0))) := bq_ BK219
  have n2_ : Aside0 (((((w22.setCell ⟨gb218, 0, none⟩ (.int .i64 t221)).setCell ⟨gb218, 1, none⟩ (.int .i64 t222)).setCell ⟨gb219, 0, none⟩ (.int .i64 t223)).setCell ⟨gb219, 1, none⟩ (.int .i64 t224)).heap[gb220]? = some (.cells #[.int .i64 0, .int .i64 0] 23 (0, 0))) := bu_ BK220
  have n3_ : Aside0 (Below w.heap.size w ((((w22.setCell ⟨gb218, 0, none⟩ (.int .i64 t221)).setCell ⟨gb218, 1, none⟩ (.int .i64 t222)).setCell ⟨gb219, 0, none⟩ (.int .i64 t223)).setCell ⟨gb219, 1, none⟩ (.int .i64 t224))) := ⟨bf HB⟩
  (try clear BK218); (try clear BK219); (try clear BK220); (try clear HB)
  generalize ((((w22.setCell ⟨gb218, 0, none⟩ (.int .i64 t221)).setCell ⟨gb218, 1, none⟩ (.int .i64 t222)).setCell ⟨gb219, 0, none⟩ (.int .i64 t223)).setCell ⟨gb219, 1, none⟩ (.int .i64 t224)) = w27 at n0_ n1_ n2_ n3_ ⊢
  have BK218 := n0_
  have BK219 := n1_
  have BK220 := n2_
  have HB := n3_
  clear n0_ n1_ n2_ n3_
  replace BK218 := Aside0.mk (blk_drew BK218.out)
  replace BK219 := Aside0.mk (blk_drew BK219.out)
  replace BK220 := Aside0.mk (blk_drew BK220.out)
  replace HB := Aside0.mk (below_drew1 HB.out)
  refine start_ (n := 9) (S := fun w' => c_ w' gb218 0 (.int .i64 t221) ∧ c_ w' gb218 1 (.int .i64 t222) ∧ c_ w' gb219 0 (.int .i64 t223) ∧ c_ w' gb219 1 (.int .i64 t224)) (ds := []) (m_ 9 0) (by kernel_rfl) rfl rfl ⟨ct BK218 0, ct BK218 1, ct BK219 0, ct BK219 1⟩ (fun hHeld => ?_); refine with_tabW frac_added_fn38.tab2 frac_added_fn38.bits2 (fun HT_ HW_ => ?_)
  generalize w27.drew = w28 at BK218 BK219 BK220 HB hHeld ⊢
  refine pu_ 0 (some 14) (m_ 9 1) rfl rfl (ao HT_) ?_
  refine pu_ 3 (some 17) (m_ 9 9) rfl rfl (ao HT_) ?_
  refine tk_ 1 (some 15) (m_ 9 11) rfl rfl (tw HT_ HW_) hHeld ?_
  refine tk_ 4 (some 18) (m_ 9 27) rfl rfl (tw HT_ HW_) hHeld ?_
  refine join_ (σ := Nat) 1 (m_ 9 255) (fun s_ => [(16, .agg #[.bool t225, .int .u64 t226, .int .u64 t227]), (19, .agg #[.bool t228, .int .u64 t229, .int .u64 t230]), (20, .agg #[.bool t231, .int .u64 t232, .int .u64 t233]), (8, .pointer (some ⟨s_, 0, none⟩))]) (fun s_ w' => (c_ w' gb218 0 (.int .i64 t221) ∧ c_ w' gb218 1 (.int .i64 t222) ∧ c_ w' gb219 0 (.int .i64 t223) ∧ c_ w' gb219 1 (.int .i64 t224)) ∧ (w'.heap[gb218]? = some (.cells #[.int .i64 t221, .int .i64 t222] 23 (0, 0))) ∧ (w'.heap[gb219]? = some (.cells #[.int .i64 t223, .int .i64 t224] 23 (0, 0))) ∧ (w'.heap[gb220]? = some (.cells #[.int .i64 0, .int .i64 0] 23 (0, 0))) ∧ (w'.heap[s_]? = some (.cells #[.bool false, .int .u64 0, .int .u64 0] 50 (0, 0))) ∧ (w.heap.size ≤ s_) ∧ (w.heap.size ≤ s_) ∧ (gb218 ≠ s_) ∧ (s_ ≠ gb218) ∧ (gb219 ≠ s_) ∧ (s_ ≠ gb219) ∧ (gb220 ≠ s_) ∧ (s_ ≠ gb220) ∧ (Below w.heap.size w w')) ?_ ?_
  rotate_left
  · intro hCont
    refine two_ (i := 2) (j := 7) (Ni := some 16) (Nj := some 8) (m_ 9 31) (m_ 9 155) rfl rfl rfl rfl (two_of HT_.out (by kernel_rfl)) (by decide) (by decide) (fun K hK => ?_) (fun K hK => ?_)
    · skip
      refine gs_ rfl Tryd.func52 (frac_sized.calls _ _ _ _ _ A5.out) ag ?_
      intro w29 hb
      replace BK218 := bb BK218 hb
      replace BK219 := bb BK219 hb
      replace BK220 := bb BK220 hb
      replace HB := bs HB hb
      (try clear hb)
      refine hK.out _ _ ⟨ct BK218 0, ct BK218 1, ct BK219 0, ct BK219 1⟩ (fun hHeld => ?_)
      clear hK K
      refine nr_ (some 16) ?_
      refine two_ (i := 5) (j := 7) (Ni := some 19) (Nj := some 8) (m_ 9 63) (m_ 9 159) rfl rfl rfl rfl (two_of HT_.out (by kernel_rfl)) (by decide) (by decide) (fun K hK => ?_) (fun K hK => ?_)
      · skip
        refine gs_ rfl Tryd.func52 (frac_sized.calls _ _ _ _ _ A6.out) ag ?_
        intro w30 hb
        replace BK218 := bb BK218 hb
        replace BK219 := bb BK219 hb
        replace BK220 := bb BK220 hb
        replace HB := bs HB hb
        (try clear hb)
        refine hK.out _ _ ⟨ct BK218 0, ct BK218 1, ct BK219 0, ct BK219 1⟩ (fun hHeld => ?_)
        clear hK K
        refine nr_ (some 19) ?_
        refine two_ (i := 6) (j := 7) (Ni := some 20) (Nj := some 8) (m_ 9 127) (m_ 9 191) rfl rfl rfl rfl (two_of HT_.out (by kernel_rfl)) (by decide) (by decide) (fun K hK => ?_) (fun K hK => ?_)
        · skip
          refine gs_ rfl Tryd.func57 (frac_signed_times.calls _ _ _ _ _ _ _ _ _ _ A7.out) ag ?_
          intro w31 hb
          replace BK218 := bb BK218 hb
          replace BK219 := bb BK219 hb
          replace BK220 := bb BK220 hb
          replace HB := bs HB hb
          (try clear hb)
          refine hK.out _ _ ⟨ct BK218 0, ct BK218 1, ct BK219 0, ct BK219 1⟩ (fun hHeld => ?_)
          clear hK K
          refine nr_ (some 20) ?_
          refine o1_ 7 (some 8) (m_ 9 255) rfl rfl (oo HT_) (fun K hK => ?_)
          refine box_step ?hg (N := 8) ?hd (cs := #[.bool false, .int .u64 0, .int .u64 0]) (t := 50) ?hr ?_; (case hd => rfl); (case hg => rfl); (case hr => first | (go_simp; done) | (go_simp; rfl))
          intro gb234 hg w32 hbox hb
          have BK234 := Aside0.mk (hbox)
          have GW234 := bz HB hg
          have GE234 := bz HB hg
          have NB218_234 := bl BK218 hg
          have NB234_218 := bg BK218 hg
          have NB219_234 := bl BK219 hg
          have NB234_219 := bg BK219 hg
          have NB220_234 := bl BK220 hg
          have NB234_220 := bg BK220 hg
          replace BK218 := bb BK218 hb
          replace BK219 := bb BK219 hb
          replace BK220 := bb BK220 hb
          replace HB := bs HB hb
          clear hb hg
          refine hK.out _ _ ⟨ct BK218 0, ct BK218 1, ct BK219 0, ct BK219 1⟩ (fun hHeld => ?_)
          clear hK K
          refine nr_ (some 8) ?_
          exact norm_ (by simp only [putAll, Act.put, si, s0, s1]) (hCont (gb234) _ ⟨hHeld, (bx BK218), (bx BK219), (bx BK220), (bx BK234), GW234.out, GE234.out, NB218_234.out, NB234_218.out, NB219_234.out, NB234_219.out, NB220_234.out, NB234_220.out, (bf HB)⟩)
        · skip
          refine box_step ?hg (N := 8) ?hd (cs := #[.bool false, .int .u64 0, .int .u64 0]) (t := 50) ?hr ?_; (case hd => rfl); (case hg => rfl); (case hr => first | (go_simp; done) | (go_simp; rfl))
          intro gb234 hg w31 hbox hb
          have BK234 := Aside0.mk (hbox)
          have GW234 := bz HB hg
          have GE234 := bz HB hg
          have NB218_234 := bl BK218 hg
          have NB234_218 := bg BK218 hg
          have NB219_234 := bl BK219 hg
          have NB234_219 := bg BK219 hg
          have NB220_234 := bl BK220 hg
          have NB234_220 := bg BK220 hg
          replace BK218 := bb BK218 hb
          replace BK219 := bb BK219 hb
          replace BK220 := bb BK220 hb
          replace HB := bs HB hb
          clear hb hg
          refine hK.out _ _ ⟨ct BK218 0, ct BK218 1, ct BK219 0, ct BK219 1⟩ (fun hHeld => ?_)
          clear hK K
          refine nr_ (some 8) ?_
          refine o1_ 6 (some 20) (m_ 9 255) rfl rfl (oo HT_) (fun K hK => ?_)
          refine gs_ rfl Tryd.func57 (frac_signed_times.calls _ _ _ _ _ _ _ _ _ _ A7.out) ag ?_
          intro w32 hb
          replace BK218 := bb BK218 hb
          replace BK219 := bb BK219 hb
          replace BK220 := bb BK220 hb
          replace BK234 := bb BK234 hb
          replace HB := bs HB hb
          (try clear hb)
          refine hK.out _ _ ⟨ct BK218 0, ct BK218 1, ct BK219 0, ct BK219 1⟩ (fun hHeld => ?_)
          clear hK K
          refine nr_ (some 20) ?_
          exact norm_ (by simp only [putAll, Act.put, si, s0, s1]) (hCont (gb234) _ ⟨hHeld, (bx BK218), (bx BK219), (bx BK220), (bx BK234), GW234.out, GE234.out, NB218_234.out, NB234_218.out, NB219_234.out, NB234_219.out, NB220_234.out, NB234_220.out, (bf HB)⟩)
      · skip
        refine box_step ?hg (N := 8) ?hd (cs := #[.bool false, .int .u64 0, .int .u64 0]) (t := 50) ?hr ?_; (case hd => rfl); (case hg => rfl); (case hr => first | (go_simp; done) | (go_simp; rfl))
        intro gb234 hg w30 hbox hb
        have BK234 := Aside0.mk (hbox)
        have GW234 := bz HB hg
        have GE234 := bz HB hg
        have NB218_234 := bl BK218 hg
        have NB234_218 := bg BK218 hg
        have NB219_234 := bl BK219 hg
        have NB234_219 := bg BK219 hg
        have NB220_234 := bl BK220 hg
        have NB234_220 := bg BK220 hg
        replace BK218 := bb BK218 hb
        replace BK219 := bb BK219 hb
        replace BK220 := bb BK220 hb
        replace HB := bs HB hb
        clear hb hg
        refine hK.out _ _ ⟨ct BK218 0, ct BK218 1, ct BK219 0, ct BK219 1⟩ (fun hHeld => ?_)
        clear hK K
        refine nr_ (some 8) ?_
        refine o1_ 5 (some 19) (m_ 9 191) rfl rfl (oo HT_) (fun K hK => ?_)
        refine gs_ rfl Tryd.func52 (frac_sized.calls _ _ _ _ _ A6.out) ag ?_
        intro w31 hb
        replace BK218 := bb BK218 hb
        replace BK219 := bb BK219 hb
        replace BK220 := bb BK220 hb
        replace BK234 := bb BK234 hb
        replace HB := bs HB hb
        (try clear hb)
        refine hK.out _ _ ⟨ct BK218 0, ct BK218 1, ct BK219 0, ct BK219 1⟩ (fun hHeld => ?_)
        clear hK K
        refine nr_ (some 19) ?_
        refine o1_ 6 (some 20) (m_ 9 255) rfl rfl (oo HT_) (fun K hK => ?_)
        refine gs_ rfl Tryd.func57 (frac_signed_times.calls _ _ _ _ _ _ _ _ _ _ A7.out) ag ?_
        intro w32 hb
        replace BK218 := bb BK218 hb
        replace BK219 := bb BK219 hb
        replace BK220 := bb BK220 hb
        replace BK234 := bb BK234 hb
        replace HB := bs HB hb
        (try clear hb)
        refine hK.out _ _ ⟨ct BK218 0, ct BK218 1, ct BK219 0, ct BK219 1⟩ (fun hHeld => ?_)
        clear hK K
        refine nr_ (some 20) ?_
        exact norm_ (by simp only [putAll, Act.put, si, s0, s1]) (hCont (gb234) _ ⟨hHeld, (bx BK218), (bx BK219), (bx BK220), (bx BK234), GW234.out, GE234.out, NB218_234.out, NB234_218.out, NB219_234.out, NB234_219.out, NB220_234.out, NB234_220.out, (bf HB)⟩)
    · skip
      refine box_step ?hg (N := 8) ?hd (cs := #[.bool false, .int .u64 0, .int .u64 0]) (t := 50) ?hr ?_; (case hd => rfl); (case hg => rfl); (case hr => first | (go_simp; done) | (go_simp; rfl))
      intro gb234 hg w29 hbox hb
      have BK234 := Aside0.mk (hbox)
      have GW234 := bz HB hg
      have GE234 := bz HB hg
      have NB218_234 := bl BK218 hg
      have NB234_218 := bg BK218 hg
      have NB219_234 := bl BK219 hg
      have NB234_219 := bg BK219 hg
      have NB220_234 := bl BK220 hg
      have NB234_220 := bg BK220 hg
      replace BK218 := bb BK218 hb
      replace BK219 := bb BK219 hb
      replace BK220 := bb BK220 hb
      replace HB := bs HB hb
      clear hb hg
      refine hK.out _ _ ⟨ct BK218 0, ct BK218 1, ct BK219 0, ct BK219 1⟩ (fun hHeld => ?_)
      clear hK K
      refine nr_ (some 8) ?_
      refine o1_ 2 (some 16) (m_ 9 159) rfl rfl (oo HT_) (fun K hK => ?_)
      refine gs_ rfl Tryd.func52 (frac_sized.calls _ _ _ _ _ A5.out) ag ?_
      intro w30 hb
      replace BK218 := bb BK218 hb
      replace BK219 := bb BK219 hb
      replace BK220 := bb BK220 hb
      replace BK234 := bb BK234 hb
      replace HB := bs HB hb
      (try clear hb)
      refine hK.out _ _ ⟨ct BK218 0, ct BK218 1, ct BK219 0, ct BK219 1⟩ (fun hHeld => ?_)
      clear hK K
      refine nr_ (some 16) ?_
      refine o1_ 5 (some 19) (m_ 9 191) rfl rfl (oo HT_) (fun K hK => ?_)
      refine gs_ rfl Tryd.func52 (frac_sized.calls _ _ _ _ _ A6.out) ag ?_
      intro w31 hb
      replace BK218 := bb BK218 hb
      replace BK219 := bb BK219 hb
      replace BK220 := bb BK220 hb
      replace BK234 := bb BK234 hb
      replace HB := bs HB hb
      (try clear hb)
      refine hK.out _ _ ⟨ct BK218 0, ct BK218 1, ct BK219 0, ct BK219 1⟩ (fun hHeld => ?_)
      clear hK K
      refine nr_ (some 19) ?_
      refine o1_ 6 (some 20) (m_ 9 255) rfl rfl (oo HT_) (fun K hK => ?_)
      refine gs_ rfl Tryd.func57 (frac_signed_times.calls _ _ _ _ _ _ _ _ _ _ A7.out) ag ?_
      intro w32 hb
      replace BK218 := bb BK218 hb
      replace BK219 := bb BK219 hb
      replace BK220 := bb BK220 hb
      replace BK234 := bb BK234 hb
      replace HB := bs HB hb
      (try clear hb)
      refine hK.out _ _ ⟨ct BK218 0, ct BK218 1, ct BK219 0, ct BK219 1⟩ (fun hHeld => ?_)
      clear hK K
      refine nr_ (some 20) ?_
      exact norm_ (by simp only [putAll, Act.put, si, s0, s1]) (hCont (gb234) _ ⟨hHeld, (bx BK218), (bx BK219), (bx BK220), (bx BK234), GW234.out, GE234.out, NB218_234.out, NB234_218.out, NB219_234.out, NB234_219.out, NB220_234.out, NB234_220.out, (bf HB)⟩)
  rintro gb234 w33 ⟨hS_, h0_, h1_, h2_, h3_, h4_, h5_, h6_, h7_, h8_, h9_, h10_, h11_, h12_⟩
  have n0_ : Aside0 (w33.heap[gb218]? = some (.cells #[.int .i64 t221, .int .i64 t222] 23 (0, 0))) := ⟨h0_⟩
  have n1_ : Aside0 (w33.heap[gb219]? = some (.cells #[.int .i64 t223, .int .i64 t224] 23 (0, 0))) := ⟨h1_⟩
  have n2_ : Aside0 (w33.heap[gb220]? = some (.cells #[.int .i64 0, .int .i64 0] 23 (0, 0))) := ⟨h2_⟩
  have n3_ : Aside0 (w33.heap[gb234]? = some (.cells #[.bool false, .int .u64 0, .int .u64 0] 50 (0, 0))) := ⟨h3_⟩
  have n4_ : Aside0 (w.heap.size ≤ gb234) := ⟨h4_⟩
  have n5_ : Aside0 (w.heap.size ≤ gb234) := ⟨h5_⟩
  have n6_ : Aside0 (gb218 ≠ gb234) := ⟨h6_⟩
  have n7_ : Aside0 (gb234 ≠ gb218) := ⟨h7_⟩
  have n8_ : Aside0 (gb219 ≠ gb234) := ⟨h8_⟩
  have n9_ : Aside0 (gb234 ≠ gb219) := ⟨h9_⟩
  have n10_ : Aside0 (gb220 ≠ gb234) := ⟨h10_⟩
  have n11_ : Aside0 (gb234 ≠ gb220) := ⟨h11_⟩
  have n12_ : Aside0 (Below w.heap.size w w33) := ⟨h12_⟩
  clear BK218
  clear BK219
  clear BK220
  clear HB
  clear h0_ h1_ h2_ h3_ h4_ h5_ h6_ h7_ h8_ h9_ h10_ h11_ h12_
  have BK218 := n0_
  have BK219 := n1_
  have BK220 := n2_
  have BK234 := n3_
  have GW234 := n4_
  have GE234 := n5_
  have NB218_234 := n6_
  have NB234_218 := n7_
  have NB219_234 := n8_
  have NB234_219 := n9_
  have NB220_234 := n10_
  have NB234_220 := n11_
  have HB := n12_
  clear n0_ n1_ n2_ n3_ n4_ n5_ n6_ n7_ n8_ n9_ n10_ n11_ n12_
  have hHeld : c_ w33 gb218 0 (.int .i64 t221) ∧ c_ w33 gb218 1 (.int .i64 t222) ∧ c_ w33 gb219 0 (.int .i64 t223) ∧ c_ w33 gb219 1 (.int .i64 t224) := hS_
  refine norm_ (a' := ?_) ?_ ?_
  rotate_left
  · simp only [putAll, Act.put, si, s0, s1]
    rfl
  refine o1_ 8 (none) (m_ 9 511) rfl rfl (oo HT_) (fun K hK => ?_)
  have hs34 : c_ w33 gb234 0 (.bool false) := ct BK234 0
  have hfs34 := blk_frozen BK234.out 0
  have hns34_0 := NB218_234.out
  have hns34_1 := NB219_234.out
  have hns34_2 := NB220_234.out
  have hms34_0 := NB234_218.out
  have hms34_1 := NB234_219.out
  have hms34_2 := NB234_220.out
  have hs35 : c_ w33 gb234 1 (.int .u64 0) := ct BK234 1
  have hfs35 := blk_frozen BK234.out 1
  have hns35_0 := NB218_234.out
  have hns35_1 := NB219_234.out
  have hns35_2 := NB220_234.out
  have hms35_0 := NB234_218.out
  have hms35_1 := NB234_219.out
  have hms35_2 := NB234_220.out
  have hs36 : c_ w33 gb234 2 (.int .u64 0) := ct BK234 2
  have hfs36 := blk_frozen BK234.out 2
  have hns36_0 := NB218_234.out
  have hns36_1 := NB219_234.out
  have hns36_2 := NB220_234.out
  have hms36_0 := NB234_218.out
  have hms36_1 := NB234_219.out
  have hms36_2 := NB234_220.out
  refine skip_ (w1 := ?_) (by rfl) rfl ?_ ?_
  rotate_left
  · go_simp
    rfl
  refine hK.out _ _ ⟨((cell_far (p := ⟨gb234, _, none⟩) NB218_234.out _).trans (((cell_far (p := ⟨gb234, _, none⟩) NB218_234.out _).trans (((cell_far (p := ⟨gb234, _, none⟩) NB218_234.out _).trans (hHeld.1)))))), ((cell_far (p := ⟨gb234, _, none⟩) NB218_234.out _).trans (((cell_far (p := ⟨gb234, _, none⟩) NB218_234.out _).trans (((cell_far (p := ⟨gb234, _, none⟩) NB218_234.out _).trans (hHeld.2.1)))))), ((cell_far (p := ⟨gb234, _, none⟩) NB219_234.out _).trans (((cell_far (p := ⟨gb234, _, none⟩) NB219_234.out _).trans (((cell_far (p := ⟨gb234, _, none⟩) NB219_234.out _).trans (hHeld.2.2.1)))))), ((cell_far (p := ⟨gb234, _, none⟩) NB219_234.out _).trans (((cell_far (p := ⟨gb234, _, none⟩) NB219_234.out _).trans (((cell_far (p := ⟨gb234, _, none⟩) NB219_234.out _).trans (hHeld.2.2.2))))))⟩ (fun hHeld => ?_)
  clear hK K
  refine done_ (done_of HT_.out (by kernel_rfl)) ?_
  try go_wp2
  have n0_ : Aside0 ((((w33.setCell ⟨gb234, 0, none⟩ (.bool t231)).setCell ⟨gb234, 1, none⟩ (.int .u64 t232)).setCell ⟨gb234, 2, none⟩ (.int .u64 t233)).heap[gb218]? = some (.cells #[.int .i64 t221, .int .i64 t222] 23 (0, 0))) := bu_ BK218
  have n1_ : Aside0 ((((w33.setCell ⟨gb234, 0, none⟩ (.bool t231)).setCell ⟨gb234, 1, none⟩ (.int .u64 t232)).setCell ⟨gb234, 2, none⟩ (.int .u64 t233)).heap[gb219]? = some (.cells #[.int .i64 t223, .int .i64 t224] 23 (0, 0))) := bu_ BK219
  have n2_ : Aside0 ((((w33.setCell ⟨gb234, 0, none⟩ (.bool t231)).setCell ⟨gb234, 1, none⟩ (.int .u64 t232)).setCell ⟨gb234, 2, none⟩ (.int .u64 t233)).heap[gb220]? = some (.cells #[.int .i64 0, .int .i64 0] 23 (0, 0))) := bu_ BK220
  have n3_ : Aside0 ((((w33.setCell ⟨gb234, 0, none⟩ (.bool t231)).setCell ⟨gb234, 1, none⟩ (.int .u64 t232)).setCell ⟨gb234, 2, none⟩ (.int .u64 t233)).heap[gb234]? = some (.cells #[.bool t231, .int .u64 t232, .int .u64 t233] 50 (0, 0))) := bq_ BK234
  have n4_ : Aside0 (Below w.heap.size w (((w33.setCell ⟨gb234, 0, none⟩ (.bool t231)).setCell ⟨gb234, 1, none⟩ (.int .u64 t232)).setCell ⟨gb234, 2, none⟩ (.int .u64 t233))) := ⟨bf HB⟩
  (try clear BK218); (try clear BK219); (try clear BK220); (try clear BK234); (try clear HB)
  generalize (((w33.setCell ⟨gb234, 0, none⟩ (.bool t231)).setCell ⟨gb234, 1, none⟩ (.int .u64 t232)).setCell ⟨gb234, 2, none⟩ (.int .u64 t233)) = w37 at n0_ n1_ n2_ n3_ n4_ ⊢
  have BK218 := n0_
  have BK219 := n1_
  have BK220 := n2_
  have BK234 := n3_
  have HB := n4_
  clear n0_ n1_ n2_ n3_ n4_
  replace BK218 := Aside0.mk (blk_drew BK218.out)
  replace BK219 := Aside0.mk (blk_drew BK219.out)
  replace BK220 := Aside0.mk (blk_drew BK220.out)
  replace BK234 := Aside0.mk (blk_drew BK234.out)
  replace HB := Aside0.mk (below_drew1 HB.out)
  refine start_ (n := 11) (S := fun w' => c_ w' gb219 0 (.int .i64 t223) ∧ c_ w' gb219 1 (.int .i64 t224) ∧ c_ w' gb218 0 (.int .i64 t221) ∧ c_ w' gb218 1 (.int .i64 t222)) (ds := []) (m_ 11 0) (by kernel_rfl) rfl rfl ⟨ct BK219 0, ct BK219 1, ct BK218 0, ct BK218 1⟩ (fun hHeld => ?_); refine with_tabW frac_added_fn38.tab3 frac_added_fn38.bits3 (fun HT_ HW_ => ?_)
  generalize w37.drew = w38 at BK218 BK219 BK220 BK234 HB hHeld ⊢
  refine pu_ 0 (some 21) (m_ 11 1) rfl rfl (ao HT_) ?_
  refine pu_ 1 (some 22) (m_ 11 3) rfl rfl (ao HT_) ?_
  refine pu_ 4 (some 25) (m_ 11 19) rfl rfl (ao HT_) ?_
  refine tk_ 2 (some 23) (m_ 11 23) rfl rfl (tw HT_ HW_) hHeld ?_
  refine tk_ 5 (some 26) (m_ 11 55) rfl rfl (tw HT_ HW_) hHeld ?_
  refine join_ (σ := Nat) 1 (m_ 11 1023) (fun s_ => [(24, .agg #[.bool t235, .int .u64 t236, .int .u64 t237]), (27, .agg #[.bool t238, .int .u64 t239, .int .u64 t240]), (28, .agg #[.bool t241, .int .u64 t242, .int .u64 t243]), (29, .agg #[.bool t244, .int .u64 t245, .int .u64 t246]), (9, .pointer (some ⟨s_, 0, none⟩))]) (fun s_ w' => (c_ w' gb219 0 (.int .i64 t223) ∧ c_ w' gb219 1 (.int .i64 t224) ∧ c_ w' gb218 0 (.int .i64 t221) ∧ c_ w' gb218 1 (.int .i64 t222)) ∧ (w'.heap[gb218]? = some (.cells #[.int .i64 t221, .int .i64 t222] 23 (0, 0))) ∧ (w'.heap[gb219]? = some (.cells #[.int .i64 t223, .int .i64 t224] 23 (0, 0))) ∧ (w'.heap[gb220]? = some (.cells #[.int .i64 0, .int .i64 0] 23 (0, 0))) ∧ (w'.heap[gb234]? = some (.cells #[.bool t231, .int .u64 t232, .int .u64 t233] 50 (0, 0))) ∧ (w'.heap[s_]? = some (.cells #[.bool false, .int .u64 0, .int .u64 0] 50 (0, 0))) ∧ (w.heap.size ≤ s_) ∧ (w.heap.size ≤ s_) ∧ (gb218 ≠ s_) ∧ (s_ ≠ gb218) ∧ (gb219 ≠ s_) ∧ (s_ ≠ gb219) ∧ (gb220 ≠ s_) ∧ (s_ ≠ gb220) ∧ (gb234 ≠ s_) ∧ (s_ ≠ gb234) ∧ (Below w.heap.size w w')) ?_ ?_
  rotate_left
  · intro hJ3_6_7_8_9
    refine join_ (σ := Unit) 2 (m_ 11 511) (fun s_ => [(24, .agg #[.bool t235, .int .u64 t236, .int .u64 t237]), (27, .agg #[.bool t238, .int .u64 t239, .int .u64 t240]), (28, .agg #[.bool t241, .int .u64 t242, .int .u64 t243]), (29, .agg #[.bool t244, .int .u64 t245, .int .u64 t246])]) (fun s_ w' => (c_ w' gb219 0 (.int .i64 t223) ∧ c_ w' gb219 1 (.int .i64 t224) ∧ c_ w' gb218 0 (.int .i64 t221) ∧ c_ w' gb218 1 (.int .i64 t222)) ∧ (w'.heap[gb218]? = some (.cells #[.int .i64 t221, .int .i64 t222] 23 (0, 0))) ∧ (w'.heap[gb219]? = some (.cells #[.int .i64 t223, .int .i64 t224] 23 (0, 0))) ∧ (w'.heap[gb220]? = some (.cells #[.int .i64 0, .int .i64 0] 23 (0, 0))) ∧ (w'.heap[gb234]? = some (.cells #[.bool t231, .int .u64 t232, .int .u64 t233] 50 (0, 0))) ∧ (Below w.heap.size w w')) ?_ ?_
    rotate_left
    · intro hJ3_6_7_8
      refine join_ (σ := Nat) 2 (m_ 11 767) (fun s_ => [(24, .agg #[.bool t235, .int .u64 t236, .int .u64 t237]), (27, .agg #[.bool t238, .int .u64 t239, .int .u64 t240]), (28, .agg #[.bool t241, .int .u64 t242, .int .u64 t243]), (9, .pointer (some ⟨s_, 0, none⟩))]) (fun s_ w' => (c_ w' gb219 0 (.int .i64 t223) ∧ c_ w' gb219 1 (.int .i64 t224) ∧ c_ w' gb218 0 (.int .i64 t221) ∧ c_ w' gb218 1 (.int .i64 t222)) ∧ (w'.heap[gb218]? = some (.cells #[.int .i64 t221, .int .i64 t222] 23 (0, 0))) ∧ (w'.heap[gb219]? = some (.cells #[.int .i64 t223, .int .i64 t224] 23 (0, 0))) ∧ (w'.heap[gb220]? = some (.cells #[.int .i64 0, .int .i64 0] 23 (0, 0))) ∧ (w'.heap[gb234]? = some (.cells #[.bool t231, .int .u64 t232, .int .u64 t233] 50 (0, 0))) ∧ (w'.heap[s_]? = some (.cells #[.bool false, .int .u64 0, .int .u64 0] 50 (0, 0))) ∧ (w.heap.size ≤ s_) ∧ (w.heap.size ≤ s_) ∧ (gb218 ≠ s_) ∧ (s_ ≠ gb218) ∧ (gb219 ≠ s_) ∧ (s_ ≠ gb219) ∧ (gb220 ≠ s_) ∧ (s_ ≠ gb220) ∧ (gb234 ≠ s_) ∧ (s_ ≠ gb234) ∧ (Below w.heap.size w w')) ?_ ?_
      rotate_left
      · intro hJ3_6_7_9
        refine join_ (σ := Unit) 3 (m_ 11 255) (fun s_ => [(24, .agg #[.bool t235, .int .u64 t236, .int .u64 t237]), (27, .agg #[.bool t238, .int .u64 t239, .int .u64 t240]), (28, .agg #[.bool t241, .int .u64 t242, .int .u64 t243])]) (fun s_ w' => (c_ w' gb219 0 (.int .i64 t223) ∧ c_ w' gb219 1 (.int .i64 t224) ∧ c_ w' gb218 0 (.int .i64 t221) ∧ c_ w' gb218 1 (.int .i64 t222)) ∧ (w'.heap[gb218]? = some (.cells #[.int .i64 t221, .int .i64 t222] 23 (0, 0))) ∧ (w'.heap[gb219]? = some (.cells #[.int .i64 t223, .int .i64 t224] 23 (0, 0))) ∧ (w'.heap[gb220]? = some (.cells #[.int .i64 0, .int .i64 0] 23 (0, 0))) ∧ (w'.heap[gb234]? = some (.cells #[.bool t231, .int .u64 t232, .int .u64 t233] 50 (0, 0))) ∧ (Below w.heap.size w w')) ?_ ?_
        rotate_left
        · intro hJ3_6_7
          refine join_ (σ := Nat) 3 (m_ 11 639) (fun s_ => [(24, .agg #[.bool t235, .int .u64 t236, .int .u64 t237]), (27, .agg #[.bool t238, .int .u64 t239, .int .u64 t240]), (9, .pointer (some ⟨s_, 0, none⟩))]) (fun s_ w' => (c_ w' gb219 0 (.int .i64 t223) ∧ c_ w' gb219 1 (.int .i64 t224) ∧ c_ w' gb218 0 (.int .i64 t221) ∧ c_ w' gb218 1 (.int .i64 t222)) ∧ (w'.heap[gb218]? = some (.cells #[.int .i64 t221, .int .i64 t222] 23 (0, 0))) ∧ (w'.heap[gb219]? = some (.cells #[.int .i64 t223, .int .i64 t224] 23 (0, 0))) ∧ (w'.heap[gb220]? = some (.cells #[.int .i64 0, .int .i64 0] 23 (0, 0))) ∧ (w'.heap[gb234]? = some (.cells #[.bool t231, .int .u64 t232, .int .u64 t233] 50 (0, 0))) ∧ (w'.heap[s_]? = some (.cells #[.bool false, .int .u64 0, .int .u64 0] 50 (0, 0))) ∧ (w.heap.size ≤ s_) ∧ (w.heap.size ≤ s_) ∧ (gb218 ≠ s_) ∧ (s_ ≠ gb218) ∧ (gb219 ≠ s_) ∧ (s_ ≠ gb219) ∧ (gb220 ≠ s_) ∧ (s_ ≠ gb220) ∧ (gb234 ≠ s_) ∧ (s_ ≠ gb234) ∧ (Below w.heap.size w w')) ?_ ?_
          rotate_left
          · intro hJ3_6_9
            refine join_ (σ := Unit) 4 (m_ 11 127) (fun s_ => [(24, .agg #[.bool t235, .int .u64 t236, .int .u64 t237]), (27, .agg #[.bool t238, .int .u64 t239, .int .u64 t240])]) (fun s_ w' => (c_ w' gb219 0 (.int .i64 t223) ∧ c_ w' gb219 1 (.int .i64 t224) ∧ c_ w' gb218 0 (.int .i64 t221) ∧ c_ w' gb218 1 (.int .i64 t222)) ∧ (w'.heap[gb218]? = some (.cells #[.int .i64 t221, .int .i64 t222] 23 (0, 0))) ∧ (w'.heap[gb219]? = some (.cells #[.int .i64 t223, .int .i64 t224] 23 (0, 0))) ∧ (w'.heap[gb220]? = some (.cells #[.int .i64 0, .int .i64 0] 23 (0, 0))) ∧ (w'.heap[gb234]? = some (.cells #[.bool t231, .int .u64 t232, .int .u64 t233] 50 (0, 0))) ∧ (Below w.heap.size w w')) ?_ ?_
            rotate_left
            · intro hJ3_6
              refine join_ (σ := Nat) 4 (m_ 11 575) (fun s_ => [(24, .agg #[.bool t235, .int .u64 t236, .int .u64 t237]), (9, .pointer (some ⟨s_, 0, none⟩))]) (fun s_ w' => (c_ w' gb219 0 (.int .i64 t223) ∧ c_ w' gb219 1 (.int .i64 t224) ∧ c_ w' gb218 0 (.int .i64 t221) ∧ c_ w' gb218 1 (.int .i64 t222)) ∧ (w'.heap[gb218]? = some (.cells #[.int .i64 t221, .int .i64 t222] 23 (0, 0))) ∧ (w'.heap[gb219]? = some (.cells #[.int .i64 t223, .int .i64 t224] 23 (0, 0))) ∧ (w'.heap[gb220]? = some (.cells #[.int .i64 0, .int .i64 0] 23 (0, 0))) ∧ (w'.heap[gb234]? = some (.cells #[.bool t231, .int .u64 t232, .int .u64 t233] 50 (0, 0))) ∧ (w'.heap[s_]? = some (.cells #[.bool false, .int .u64 0, .int .u64 0] 50 (0, 0))) ∧ (w.heap.size ≤ s_) ∧ (w.heap.size ≤ s_) ∧ (gb218 ≠ s_) ∧ (s_ ≠ gb218) ∧ (gb219 ≠ s_) ∧ (s_ ≠ gb219) ∧ (gb220 ≠ s_) ∧ (s_ ≠ gb220) ∧ (gb234 ≠ s_) ∧ (s_ ≠ gb234) ∧ (Below w.heap.size w w')) ?_ ?_
              rotate_left
              · intro hJ3_9
                refine join_ (σ := Unit) 5 (m_ 11 63) (fun s_ => [(24, .agg #[.bool t235, .int .u64 t236, .int .u64 t237])]) (fun s_ w' => (c_ w' gb219 0 (.int .i64 t223) ∧ c_ w' gb219 1 (.int .i64 t224) ∧ c_ w' gb218 0 (.int .i64 t221) ∧ c_ w' gb218 1 (.int .i64 t222)) ∧ (w'.heap[gb218]? = some (.cells #[.int .i64 t221, .int .i64 t222] 23 (0, 0))) ∧ (w'.heap[gb219]? = some (.cells #[.int .i64 t223, .int .i64 t224] 23 (0, 0))) ∧ (w'.heap[gb220]? = some (.cells #[.int .i64 0, .int .i64 0] 23 (0, 0))) ∧ (w'.heap[gb234]? = some (.cells #[.bool t231, .int .u64 t232, .int .u64 t233] 50 (0, 0))) ∧ (Below w.heap.size w w')) ?_ ?_
                rotate_left
                · intro hJ3
                  refine join_ (σ := Nat) 5 (m_ 11 567) (fun s_ => [(9, .pointer (some ⟨s_, 0, none⟩))]) (fun s_ w' => (c_ w' gb219 0 (.int .i64 t223) ∧ c_ w' gb219 1 (.int .i64 t224) ∧ c_ w' gb218 0 (.int .i64 t221) ∧ c_ w' gb218 1 (.int .i64 t222)) ∧ (w'.heap[gb218]? = some (.cells #[.int .i64 t221, .int .i64 t222] 23 (0, 0))) ∧ (w'.heap[gb219]? = some (.cells #[.int .i64 t223, .int .i64 t224] 23 (0, 0))) ∧ (w'.heap[gb220]? = some (.cells #[.int .i64 0, .int .i64 0] 23 (0, 0))) ∧ (w'.heap[gb234]? = some (.cells #[.bool t231, .int .u64 t232, .int .u64 t233] 50 (0, 0))) ∧ (w'.heap[s_]? = some (.cells #[.bool false, .int .u64 0, .int .u64 0] 50 (0, 0))) ∧ (w.heap.size ≤ s_) ∧ (w.heap.size ≤ s_) ∧ (gb218 ≠ s_) ∧ (s_ ≠ gb218) ∧ (gb219 ≠ s_) ∧ (s_ ≠ gb219) ∧ (gb220 ≠ s_) ∧ (s_ ≠ gb220) ∧ (gb234 ≠ s_) ∧ (s_ ≠ gb234) ∧ (Below w.heap.size w w')) ?_ ?_
                  rotate_left
                  · intro hJ9
                    refine two_ (i := 3) (j := 9) (Ni := some 24) (Nj := some 9) (m_ 11 63) (m_ 11 567) rfl rfl rfl rfl (two_of HT_.out (by kernel_rfl)) (by decide) (by decide) (fun K hK => ?_) (fun K hK => ?_)
                    · skip
                      refine gs_ rfl Tryd.func52 (frac_sized.calls _ _ _ _ _ A8.out) ag ?_
                      intro w39 hb
                      replace BK218 := bb BK218 hb
                      replace BK219 := bb BK219 hb
                      replace BK220 := bb BK220 hb
                      replace BK234 := bb BK234 hb
                      replace HB := bs HB hb
                      (try clear hb)
                      refine hK.out _ _ ⟨ct BK219 0, ct BK219 1, ct BK218 0, ct BK218 1⟩ (fun hHeld => ?_)
                      clear hK K
                      refine nr_ (some 24) ?_
                      exact norm_ (by first | (simp only [putAll, Act.put, si, s0, s1]; done) | (simp only [putAll, Act.put, si, s0, s1]; rfl)) (hJ3 () _ ⟨hHeld, (bx BK218), (bx BK219), (bx BK220), (bx BK234), (bf HB)⟩)
                    · skip
                      refine box_step ?hg (N := 9) ?hd (cs := #[.bool false, .int .u64 0, .int .u64 0]) (t := 50) ?hr ?_; (case hd => rfl); (case hg => rfl); (case hr => first | (go_simp; done) | (go_simp; rfl))
                      intro gb247 hg w39 hbox hb
                      have BK247 := Aside0.mk (hbox)
                      have GW247 := bz HB hg
                      have GE247 := bz HB hg
                      have NB218_247 := bl BK218 hg
                      have NB247_218 := bg BK218 hg
                      have NB219_247 := bl BK219 hg
                      have NB247_219 := bg BK219 hg
                      have NB220_247 := bl BK220 hg
                      have NB247_220 := bg BK220 hg
                      have NB234_247 := bl BK234 hg
                      have NB247_234 := bg BK234 hg
                      replace BK218 := bb BK218 hb
                      replace BK219 := bb BK219 hb
                      replace BK220 := bb BK220 hb
                      replace BK234 := bb BK234 hb
                      replace HB := bs HB hb
                      clear hb hg
                      refine hK.out _ _ ⟨ct BK219 0, ct BK219 1, ct BK218 0, ct BK218 1⟩ (fun hHeld => ?_)
                      clear hK K
                      refine nr_ (some 9) ?_
                      exact norm_ (by first | (simp only [putAll, Act.put, si, s0, s1]; done) | (simp only [putAll, Act.put, si, s0, s1]; rfl)) (hJ9 (gb247) _ ⟨hHeld, (bx BK218), (bx BK219), (bx BK220), (bx BK234), (bx BK247), GW247.out, GE247.out, NB218_247.out, NB247_218.out, NB219_247.out, NB247_219.out, NB220_247.out, NB247_220.out, NB234_247.out, NB247_234.out, (bf HB)⟩)
                  · skip
                    rintro gb247 w40 ⟨hS_, h0_, h1_, h2_, h3_, h4_, h5_, h6_, h7_, h8_, h9_, h10_, h11_, h12_, h13_, h14_, h15_⟩
                    have n0_ : Aside0 (w40.heap[gb218]? = some (.cells #[.int .i64 t221, .int .i64 t222] 23 (0, 0))) := ⟨h0_⟩
                    have n1_ : Aside0 (w40.heap[gb219]? = some (.cells #[.int .i64 t223, .int .i64 t224] 23 (0, 0))) := ⟨h1_⟩
                    have n2_ : Aside0 (w40.heap[gb220]? = some (.cells #[.int .i64 0, .int .i64 0] 23 (0, 0))) := ⟨h2_⟩
                    have n3_ : Aside0 (w40.heap[gb234]? = some (.cells #[.bool t231, .int .u64 t232, .int .u64 t233] 50 (0, 0))) := ⟨h3_⟩
                    have n4_ : Aside0 (w40.heap[gb247]? = some (.cells #[.bool false, .int .u64 0, .int .u64 0] 50 (0, 0))) := ⟨h4_⟩
                    have n5_ : Aside0 (w.heap.size ≤ gb247) := ⟨h5_⟩
                    have n6_ : Aside0 (w.heap.size ≤ gb247) := ⟨h6_⟩
                    have n7_ : Aside0 (gb218 ≠ gb247) := ⟨h7_⟩
                    have n8_ : Aside0 (gb247 ≠ gb218) := ⟨h8_⟩
                    have n9_ : Aside0 (gb219 ≠ gb247) := ⟨h9_⟩
                    have n10_ : Aside0 (gb247 ≠ gb219) := ⟨h10_⟩
                    have n11_ : Aside0 (gb220 ≠ gb247) := ⟨h11_⟩
                    have n12_ : Aside0 (gb247 ≠ gb220) := ⟨h12_⟩
                    have n13_ : Aside0 (gb234 ≠ gb247) := ⟨h13_⟩
                    have n14_ : Aside0 (gb247 ≠ gb234) := ⟨h14_⟩
                    have n15_ : Aside0 (Below w.heap.size w w40) := ⟨h15_⟩
                    clear BK218
                    clear BK219
                    clear BK220
                    clear BK234
                    clear HB
                    clear h0_ h1_ h2_ h3_ h4_ h5_ h6_ h7_ h8_ h9_ h10_ h11_ h12_ h13_ h14_ h15_
                    have BK218 := n0_
                    have BK219 := n1_
                    have BK220 := n2_
                    have BK234 := n3_
                    have BK247 := n4_
                    have GW247 := n5_
                    have GE247 := n6_
                    have NB218_247 := n7_
                    have NB247_218 := n8_
                    have NB219_247 := n9_
                    have NB247_219 := n10_
                    have NB220_247 := n11_
                    have NB247_220 := n12_
                    have NB234_247 := n13_
                    have NB247_234 := n14_
                    have HB := n15_
                    clear n0_ n1_ n2_ n3_ n4_ n5_ n6_ n7_ n8_ n9_ n10_ n11_ n12_ n13_ n14_ n15_
                    have hHeld : c_ w40 gb219 0 (.int .i64 t223) ∧ c_ w40 gb219 1 (.int .i64 t224) ∧ c_ w40 gb218 0 (.int .i64 t221) ∧ c_ w40 gb218 1 (.int .i64 t222) := hS_
                    refine norm_ (a' := ?_) ?_ ?_
                    rotate_left
                    · simp only [putAll, Act.put, si, s0, s1]
                      rfl
                    refine o1_ 3 (some 24) (m_ 11 575) rfl rfl (oo HT_) (fun K hK => ?_)
                    refine gs_ rfl Tryd.func52 (frac_sized.calls _ _ _ _ _ A8.out) ag ?_
                    intro w41 hb
                    replace BK218 := bb BK218 hb
                    replace BK219 := bb BK219 hb
                    replace BK220 := bb BK220 hb
                    replace BK234 := bb BK234 hb
                    replace BK247 := bb BK247 hb
                    replace HB := bs HB hb
                    (try clear hb)
                    refine hK.out _ _ ⟨ct BK219 0, ct BK219 1, ct BK218 0, ct BK218 1⟩ (fun hHeld => ?_)
                    clear hK K
                    refine nr_ (some 24) ?_
                    exact norm_ (by first | (simp only [putAll, Act.put, si, s0, s1]; done) | (simp only [putAll, Act.put, si, s0, s1]; rfl)) (hJ3_9 (gb247) _ ⟨hHeld, (bx BK218), (bx BK219), (bx BK220), (bx BK234), (bx BK247), GW247.out, GE247.out, NB218_247.out, NB247_218.out, NB219_247.out, NB247_219.out, NB220_247.out, NB247_220.out, NB234_247.out, NB247_234.out, (bf HB)⟩)
                · skip
                  rintro _ w40 ⟨hS_, h0_, h1_, h2_, h3_, h4_⟩
                  have n0_ : Aside0 (w40.heap[gb218]? = some (.cells #[.int .i64 t221, .int .i64 t222] 23 (0, 0))) := ⟨h0_⟩
                  have n1_ : Aside0 (w40.heap[gb219]? = some (.cells #[.int .i64 t223, .int .i64 t224] 23 (0, 0))) := ⟨h1_⟩
                  have n2_ : Aside0 (w40.heap[gb220]? = some (.cells #[.int .i64 0, .int .i64 0] 23 (0, 0))) := ⟨h2_⟩
                  have n3_ : Aside0 (w40.heap[gb234]? = some (.cells #[.bool t231, .int .u64 t232, .int .u64 t233] 50 (0, 0))) := ⟨h3_⟩
                  have n4_ : Aside0 (Below w.heap.size w w40) := ⟨h4_⟩
                  clear BK218
                  clear BK219
                  clear BK220
                  clear BK234
                  clear HB
                  clear h0_ h1_ h2_ h3_ h4_
                  have BK218 := n0_
                  have BK219 := n1_
                  have BK220 := n2_
                  have BK234 := n3_
                  have HB := n4_
                  clear n0_ n1_ n2_ n3_ n4_
                  have hHeld : c_ w40 gb219 0 (.int .i64 t223) ∧ c_ w40 gb219 1 (.int .i64 t224) ∧ c_ w40 gb218 0 (.int .i64 t221) ∧ c_ w40 gb218 1 (.int .i64 t222) := hS_
                  refine norm_ (a' := ?_) ?_ ?_
                  rotate_left
                  · simp only [putAll, Act.put, si, s0, s1]
                    rfl
                  refine two_ (i := 6) (j := 9) (Ni := some 27) (Nj := some 9) (m_ 11 127) (m_ 11 575) rfl rfl rfl rfl (two_of HT_.out (by kernel_rfl)) (by decide) (by decide) (fun K hK => ?_) (fun K hK => ?_)
                  · skip
                    refine gs_ rfl Tryd.func52 (frac_sized.calls _ _ _ _ _ A9.out) ag ?_
                    intro w41 hb
                    replace BK218 := bb BK218 hb
                    replace BK219 := bb BK219 hb
                    replace BK220 := bb BK220 hb
                    replace BK234 := bb BK234 hb
                    replace HB := bs HB hb
                    (try clear hb)
                    refine hK.out _ _ ⟨ct BK219 0, ct BK219 1, ct BK218 0, ct BK218 1⟩ (fun hHeld => ?_)
                    clear hK K
                    refine nr_ (some 27) ?_
                    exact norm_ (by first | (simp only [putAll, Act.put, si, s0, s1]; done) | (simp only [putAll, Act.put, si, s0, s1]; rfl)) (hJ3_6 () _ ⟨hHeld, (bx BK218), (bx BK219), (bx BK220), (bx BK234), (bf HB)⟩)
                  · skip
                    refine box_step ?hg (N := 9) ?hd (cs := #[.bool false, .int .u64 0, .int .u64 0]) (t := 50) ?hr ?_; (case hd => rfl); (case hg => rfl); (case hr => first | (go_simp; done) | (go_simp; rfl))
                    intro gb247 hg w41 hbox hb
                    have BK247 := Aside0.mk (hbox)
                    have GW247 := bz HB hg
                    have GE247 := bz HB hg
                    have NB218_247 := bl BK218 hg
                    have NB247_218 := bg BK218 hg
                    have NB219_247 := bl BK219 hg
                    have NB247_219 := bg BK219 hg
                    have NB220_247 := bl BK220 hg
                    have NB247_220 := bg BK220 hg
                    have NB234_247 := bl BK234 hg
                    have NB247_234 := bg BK234 hg
                    replace BK218 := bb BK218 hb
                    replace BK219 := bb BK219 hb
                    replace BK220 := bb BK220 hb
                    replace BK234 := bb BK234 hb
                    replace HB := bs HB hb
                    clear hb hg
                    refine hK.out _ _ ⟨ct BK219 0, ct BK219 1, ct BK218 0, ct BK218 1⟩ (fun hHeld => ?_)
                    clear hK K
                    refine nr_ (some 9) ?_
                    exact norm_ (by first | (simp only [putAll, Act.put, si, s0, s1]; done) | (simp only [putAll, Act.put, si, s0, s1]; rfl)) (hJ3_9 (gb247) _ ⟨hHeld, (bx BK218), (bx BK219), (bx BK220), (bx BK234), (bx BK247), GW247.out, GE247.out, NB218_247.out, NB247_218.out, NB219_247.out, NB247_219.out, NB220_247.out, NB247_220.out, NB234_247.out, NB247_234.out, (bf HB)⟩)
              · skip
                rintro gb247 w41 ⟨hS_, h0_, h1_, h2_, h3_, h4_, h5_, h6_, h7_, h8_, h9_, h10_, h11_, h12_, h13_, h14_, h15_⟩
                have n0_ : Aside0 (w41.heap[gb218]? = some (.cells #[.int .i64 t221, .int .i64 t222] 23 (0, 0))) := ⟨h0_⟩
                have n1_ : Aside0 (w41.heap[gb219]? = some (.cells #[.int .i64 t223, .int .i64 t224] 23 (0, 0))) := ⟨h1_⟩
                have n2_ : Aside0 (w41.heap[gb220]? = some (.cells #[.int .i64 0, .int .i64 0] 23 (0, 0))) := ⟨h2_⟩
                have n3_ : Aside0 (w41.heap[gb234]? = some (.cells #[.bool t231, .int .u64 t232, .int .u64 t233] 50 (0, 0))) := ⟨h3_⟩
                have n4_ : Aside0 (w41.heap[gb247]? = some (.cells #[.bool false, .int .u64 0, .int .u64 0] 50 (0, 0))) := ⟨h4_⟩
                have n5_ : Aside0 (w.heap.size ≤ gb247) := ⟨h5_⟩
                have n6_ : Aside0 (w.heap.size ≤ gb247) := ⟨h6_⟩
                have n7_ : Aside0 (gb218 ≠ gb247) := ⟨h7_⟩
                have n8_ : Aside0 (gb247 ≠ gb218) := ⟨h8_⟩
                have n9_ : Aside0 (gb219 ≠ gb247) := ⟨h9_⟩
                have n10_ : Aside0 (gb247 ≠ gb219) := ⟨h10_⟩
                have n11_ : Aside0 (gb220 ≠ gb247) := ⟨h11_⟩
                have n12_ : Aside0 (gb247 ≠ gb220) := ⟨h12_⟩
                have n13_ : Aside0 (gb234 ≠ gb247) := ⟨h13_⟩
                have n14_ : Aside0 (gb247 ≠ gb234) := ⟨h14_⟩
                have n15_ : Aside0 (Below w.heap.size w w41) := ⟨h15_⟩
                clear BK218
                clear BK219
                clear BK220
                clear BK234
                clear HB
                clear h0_ h1_ h2_ h3_ h4_ h5_ h6_ h7_ h8_ h9_ h10_ h11_ h12_ h13_ h14_ h15_
                have BK218 := n0_
                have BK219 := n1_
                have BK220 := n2_
                have BK234 := n3_
                have BK247 := n4_
                have GW247 := n5_
                have GE247 := n6_
                have NB218_247 := n7_
                have NB247_218 := n8_
                have NB219_247 := n9_
                have NB247_219 := n10_
                have NB220_247 := n11_
                have NB247_220 := n12_
                have NB234_247 := n13_
                have NB247_234 := n14_
                have HB := n15_
                clear n0_ n1_ n2_ n3_ n4_ n5_ n6_ n7_ n8_ n9_ n10_ n11_ n12_ n13_ n14_ n15_
                have hHeld : c_ w41 gb219 0 (.int .i64 t223) ∧ c_ w41 gb219 1 (.int .i64 t224) ∧ c_ w41 gb218 0 (.int .i64 t221) ∧ c_ w41 gb218 1 (.int .i64 t222) := hS_
                refine norm_ (a' := ?_) ?_ ?_
                rotate_left
                · simp only [putAll, Act.put, si, s0, s1]
                  rfl
                refine o1_ 6 (some 27) (m_ 11 639) rfl rfl (oo HT_) (fun K hK => ?_)
                refine gs_ rfl Tryd.func52 (frac_sized.calls _ _ _ _ _ A9.out) ag ?_
                intro w42 hb
                replace BK218 := bb BK218 hb
                replace BK219 := bb BK219 hb
                replace BK220 := bb BK220 hb
                replace BK234 := bb BK234 hb
                replace BK247 := bb BK247 hb
                replace HB := bs HB hb
                (try clear hb)
                refine hK.out _ _ ⟨ct BK219 0, ct BK219 1, ct BK218 0, ct BK218 1⟩ (fun hHeld => ?_)
                clear hK K
                refine nr_ (some 27) ?_
                exact norm_ (by first | (simp only [putAll, Act.put, si, s0, s1]; done) | (simp only [putAll, Act.put, si, s0, s1]; rfl)) (hJ3_6_9 (gb247) _ ⟨hHeld, (bx BK218), (bx BK219), (bx BK220), (bx BK234), (bx BK247), GW247.out, GE247.out, NB218_247.out, NB247_218.out, NB219_247.out, NB247_219.out, NB220_247.out, NB247_220.out, NB234_247.out, NB247_234.out, (bf HB)⟩)
            · skip
              rintro _ w41 ⟨hS_, h0_, h1_, h2_, h3_, h4_⟩
              have n0_ : Aside0 (w41.heap[gb218]? = some (.cells #[.int .i64 t221, .int .i64 t222] 23 (0, 0))) := ⟨h0_⟩
              have n1_ : Aside0 (w41.heap[gb219]? = some (.cells #[.int .i64 t223, .int .i64 t224] 23 (0, 0))) := ⟨h1_⟩
              have n2_ : Aside0 (w41.heap[gb220]? = some (.cells #[.int .i64 0, .int .i64 0] 23 (0, 0))) := ⟨h2_⟩
              have n3_ : Aside0 (w41.heap[gb234]? = some (.cells #[.bool t231, .int .u64 t232, .int .u64 t233] 50 (0, 0))) := ⟨h3_⟩
              have n4_ : Aside0 (Below w.heap.size w w41) := ⟨h4_⟩
              clear BK218
              clear BK219
              clear BK220
              clear BK234
              clear HB
              clear h0_ h1_ h2_ h3_ h4_
              have BK218 := n0_
              have BK219 := n1_
              have BK220 := n2_
              have BK234 := n3_
              have HB := n4_
              clear n0_ n1_ n2_ n3_ n4_
              have hHeld : c_ w41 gb219 0 (.int .i64 t223) ∧ c_ w41 gb219 1 (.int .i64 t224) ∧ c_ w41 gb218 0 (.int .i64 t221) ∧ c_ w41 gb218 1 (.int .i64 t222) := hS_
              refine norm_ (a' := ?_) ?_ ?_
              rotate_left
              · simp only [putAll, Act.put, si, s0, s1]
                rfl
              refine two_ (i := 7) (j := 9) (Ni := some 28) (Nj := some 9) (m_ 11 255) (m_ 11 639) rfl rfl rfl rfl (two_of HT_.out (by kernel_rfl)) (by decide) (by decide) (fun K hK => ?_) (fun K hK => ?_)
              · skip
                refine gs_ rfl Tryd.func57 (frac_signed_times.calls _ _ _ _ _ _ _ _ _ _ A10.out) ag ?_
                intro w42 hb
                replace BK218 := bb BK218 hb
                replace BK219 := bb BK219 hb
                replace BK220 := bb BK220 hb
                replace BK234 := bb BK234 hb
                replace HB := bs HB hb
                (try clear hb)
                refine hK.out _ _ ⟨ct BK219 0, ct BK219 1, ct BK218 0, ct BK218 1⟩ (fun hHeld => ?_)
                clear hK K
                refine nr_ (some 28) ?_
                exact norm_ (by first | (simp only [putAll, Act.put, si, s0, s1]; done) | (simp only [putAll, Act.put, si, s0, s1]; rfl)) (hJ3_6_7 () _ ⟨hHeld, (bx BK218), (bx BK219), (bx BK220), (bx BK234), (bf HB)⟩)
              · skip
                refine box_step ?hg (N := 9) ?hd (cs := #[.bool false, .int .u64 0, .int .u64 0]) (t := 50) ?hr ?_; (case hd => rfl); (case hg => rfl); (case hr => first | (go_simp; done) | (go_simp; rfl))
                intro gb247 hg w42 hbox hb
                have BK247 := Aside0.mk (hbox)
                have GW247 := bz HB hg
                have GE247 := bz HB hg
                have NB218_247 := bl BK218 hg
                have NB247_218 := bg BK218 hg
                have NB219_247 := bl BK219 hg
                have NB247_219 := bg BK219 hg
                have NB220_247 := bl BK220 hg
                have NB247_220 := bg BK220 hg
                have NB234_247 := bl BK234 hg
                have NB247_234 := bg BK234 hg
                replace BK218 := bb BK218 hb
                replace BK219 := bb BK219 hb
                replace BK220 := bb BK220 hb
                replace BK234 := bb BK234 hb
                replace HB := bs HB hb
                clear hb hg
                refine hK.out _ _ ⟨ct BK219 0, ct BK219 1, ct BK218 0, ct BK218 1⟩ (fun hHeld => ?_)
                clear hK K
                refine nr_ (some 9) ?_
                exact norm_ (by first | (simp only [putAll, Act.put, si, s0, s1]; done) | (simp only [putAll, Act.put, si, s0, s1]; rfl)) (hJ3_6_9 (gb247) _ ⟨hHeld, (bx BK218), (bx BK219), (bx BK220), (bx BK234), (bx BK247), GW247.out, GE247.out, NB218_247.out, NB247_218.out, NB219_247.out, NB247_219.out, NB220_247.out, NB247_220.out, NB234_247.out, NB247_234.out, (bf HB)⟩)
          · skip
            rintro gb247 w42 ⟨hS_, h0_, h1_, h2_, h3_, h4_, h5_, h6_, h7_, h8_, h9_, h10_, h11_, h12_, h13_, h14_, h15_⟩
            have n0_ : Aside0 (w42.heap[gb218]? = some (.cells #[.int .i64 t221, .int .i64 t222] 23 (0, 0))) := ⟨h0_⟩
            have n1_ : Aside0 (w42.heap[gb219]? = some (.cells #[.int .i64 t223, .int .i64 t224] 23 (0, 0))) := ⟨h1_⟩
            have n2_ : Aside0 (w42.heap[gb220]? = some (.cells #[.int .i64 0, .int .i64 0] 23 (0, 0))) := ⟨h2_⟩
            have n3_ : Aside0 (w42.heap[gb234]? = some (.cells #[.bool t231, .int .u64 t232, .int .u64 t233] 50 (0, 0))) := ⟨h3_⟩
            have n4_ : Aside0 (w42.heap[gb247]? = some (.cells #[.bool false, .int .u64 0, .int .u64 0] 50 (0, 0))) := ⟨h4_⟩
            have n5_ : Aside0 (w.heap.size ≤ gb247) := ⟨h5_⟩
            have n6_ : Aside0 (w.heap.size ≤ gb247) := ⟨h6_⟩
            have n7_ : Aside0 (gb218 ≠ gb247) := ⟨h7_⟩
            have n8_ : Aside0 (gb247 ≠ gb218) := ⟨h8_⟩
            have n9_ : Aside0 (gb219 ≠ gb247) := ⟨h9_⟩
            have n10_ : Aside0 (gb247 ≠ gb219) := ⟨h10_⟩
            have n11_ : Aside0 (gb220 ≠ gb247) := ⟨h11_⟩
            have n12_ : Aside0 (gb247 ≠ gb220) := ⟨h12_⟩
            have n13_ : Aside0 (gb234 ≠ gb247) := ⟨h13_⟩
            have n14_ : Aside0 (gb247 ≠ gb234) := ⟨h14_⟩
            have n15_ : Aside0 (Below w.heap.size w w42) := ⟨h15_⟩
            clear BK218
            clear BK219
            clear BK220
            clear BK234
            clear HB
            clear h0_ h1_ h2_ h3_ h4_ h5_ h6_ h7_ h8_ h9_ h10_ h11_ h12_ h13_ h14_ h15_
            have BK218 := n0_
            have BK219 := n1_
            have BK220 := n2_
            have BK234 := n3_
            have BK247 := n4_
            have GW247 := n5_
            have GE247 := n6_
            have NB218_247 := n7_
            have NB247_218 := n8_
            have NB219_247 := n9_
            have NB247_219 := n10_
            have NB220_247 := n11_
            have NB247_220 := n12_
            have NB234_247 := n13_
            have NB247_234 := n14_
            have HB := n15_
            clear n0_ n1_ n2_ n3_ n4_ n5_ n6_ n7_ n8_ n9_ n10_ n11_ n12_ n13_ n14_ n15_
            have hHeld : c_ w42 gb219 0 (.int .i64 t223) ∧ c_ w42 gb219 1 (.int .i64 t224) ∧ c_ w42 gb218 0 (.int .i64 t221) ∧ c_ w42 gb218 1 (.int .i64 t222) := hS_
            refine norm_ (a' := ?_) ?_ ?_
            rotate_left
            · simp only [putAll, Act.put, si, s0, s1]
              rfl
            refine o1_ 7 (some 28) (m_ 11 767) rfl rfl (oo HT_) (fun K hK => ?_)
            refine gs_ rfl Tryd.func57 (frac_signed_times.calls _ _ _ _ _ _ _ _ _ _ A10.out) ag ?_
            intro w43 hb
            replace BK218 := bb BK218 hb
            replace BK219 := bb BK219 hb
            replace BK220 := bb BK220 hb
            replace BK234 := bb BK234 hb
            replace BK247 := bb BK247 hb
            replace HB := bs HB hb
            (try clear hb)
            refine hK.out _ _ ⟨ct BK219 0, ct BK219 1, ct BK218 0, ct BK218 1⟩ (fun hHeld => ?_)
            clear hK K
            refine nr_ (some 28) ?_
            exact norm_ (by first | (simp only [putAll, Act.put, si, s0, s1]; done) | (simp only [putAll, Act.put, si, s0, s1]; rfl)) (hJ3_6_7_9 (gb247) _ ⟨hHeld, (bx BK218), (bx BK219), (bx BK220), (bx BK234), (bx BK247), GW247.out, GE247.out, NB218_247.out, NB247_218.out, NB219_247.out, NB247_219.out, NB220_247.out, NB247_220.out, NB234_247.out, NB247_234.out, (bf HB)⟩)
        · skip
          rintro _ w42 ⟨hS_, h0_, h1_, h2_, h3_, h4_⟩
          have n0_ : Aside0 (w42.heap[gb218]? = some (.cells #[.int .i64 t221, .int .i64 t222] 23 (0, 0))) := ⟨h0_⟩
          have n1_ : Aside0 (w42.heap[gb219]? = some (.cells #[.int .i64 t223, .int .i64 t224] 23 (0, 0))) := ⟨h1_⟩
          have n2_ : Aside0 (w42.heap[gb220]? = some (.cells #[.int .i64 0, .int .i64 0] 23 (0, 0))) := ⟨h2_⟩
          have n3_ : Aside0 (w42.heap[gb234]? = some (.cells #[.bool t231, .int .u64 t232, .int .u64 t233] 50 (0, 0))) := ⟨h3_⟩
          have n4_ : Aside0 (Below w.heap.size w w42) := ⟨h4_⟩
          clear BK218
          clear BK219
          clear BK220
          clear BK234
          clear HB
          clear h0_ h1_ h2_ h3_ h4_
          have BK218 := n0_
          have BK219 := n1_
          have BK220 := n2_
          have BK234 := n3_
          have HB := n4_
          clear n0_ n1_ n2_ n3_ n4_
          have hHeld : c_ w42 gb219 0 (.int .i64 t223) ∧ c_ w42 gb219 1 (.int .i64 t224) ∧ c_ w42 gb218 0 (.int .i64 t221) ∧ c_ w42 gb218 1 (.int .i64 t222) := hS_
          refine norm_ (a' := ?_) ?_ ?_
          rotate_left
          · simp only [putAll, Act.put, si, s0, s1]
            rfl
          refine two_ (i := 8) (j := 9) (Ni := some 29) (Nj := some 9) (m_ 11 511) (m_ 11 767) rfl rfl rfl rfl (two_of HT_.out (by kernel_rfl)) (by decide) (by decide) (fun K hK => ?_) (fun K hK => ?_)
          · skip
            refine goesU_ Tryd.func38 (by kernel_rfl) rfl #[.agg #[.bool t241, .int .u64 t242, .int .u64 t243]] (by rfl) rfl rfl rfl ag ?_
            with_reducible refine (frac_Add_1.calls _ _ _ _ _ _ _ A11.out).mono ?_
            rintro e w43 ⟨rfl, hb⟩
            refine ⟨_, rfl, ?_⟩
            replace BK218 := bb BK218 hb
            replace BK219 := bb BK219 hb
            replace BK220 := bb BK220 hb
            replace BK234 := bb BK234 hb
            replace HB := bs HB hb
            (try clear hb)
            refine hK.out _ _ ⟨ct BK219 0, ct BK219 1, ct BK218 0, ct BK218 1⟩ (fun hHeld => ?_)
            clear hK K
            refine nr_ (some 29) ?_
            exact norm_ (by first | (simp only [putAll, Act.put, si, s0, s1]; done) | (simp only [putAll, Act.put, si, s0, s1]; rfl)) (hJ3_6_7_8 () _ ⟨hHeld, (bx BK218), (bx BK219), (bx BK220), (bx BK234), (bf HB)⟩)
          · skip
            refine box_step ?hg (N := 9) ?hd (cs := #[.bool false, .int .u64 0, .int .u64 0]) (t := 50) ?hr ?_; (case hd => rfl); (case hg => rfl); (case hr => first | (go_simp; done) | (go_simp; rfl))
            intro gb247 hg w43 hbox hb
            have BK247 := Aside0.mk (hbox)
            have GW247 := bz HB hg
            have GE247 := bz HB hg
            have NB218_247 := bl BK218 hg
            have NB247_218 := bg BK218 hg
            have NB219_247 := bl BK219 hg
            have NB247_219 := bg BK219 hg
            have NB220_247 := bl BK220 hg
            have NB247_220 := bg BK220 hg
            have NB234_247 := bl BK234 hg
            have NB247_234 := bg BK234 hg
            replace BK218 := bb BK218 hb
            replace BK219 := bb BK219 hb
            replace BK220 := bb BK220 hb
            replace BK234 := bb BK234 hb
            replace HB := bs HB hb
            clear hb hg
            refine hK.out _ _ ⟨ct BK219 0, ct BK219 1, ct BK218 0, ct BK218 1⟩ (fun hHeld => ?_)
            clear hK K
            refine nr_ (some 9) ?_
            exact norm_ (by first | (simp only [putAll, Act.put, si, s0, s1]; done) | (simp only [putAll, Act.put, si, s0, s1]; rfl)) (hJ3_6_7_9 (gb247) _ ⟨hHeld, (bx BK218), (bx BK219), (bx BK220), (bx BK234), (bx BK247), GW247.out, GE247.out, NB218_247.out, NB247_218.out, NB219_247.out, NB247_219.out, NB220_247.out, NB247_220.out, NB234_247.out, NB247_234.out, (bf HB)⟩)
      · skip
        rintro gb247 w43 ⟨hS_, h0_, h1_, h2_, h3_, h4_, h5_, h6_, h7_, h8_, h9_, h10_, h11_, h12_, h13_, h14_, h15_⟩
        have n0_ : Aside0 (w43.heap[gb218]? = some (.cells #[.int .i64 t221, .int .i64 t222] 23 (0, 0))) := ⟨h0_⟩
        have n1_ : Aside0 (w43.heap[gb219]? = some (.cells #[.int .i64 t223, .int .i64 t224] 23 (0, 0))) := ⟨h1_⟩
        have n2_ : Aside0 (w43.heap[gb220]? = some (.cells #[.int .i64 0, .int .i64 0] 23 (0, 0))) := ⟨h2_⟩
        have n3_ : Aside0 (w43.heap[gb234]? = some (.cells #[.bool t231, .int .u64 t232, .int .u64 t233] 50 (0, 0))) := ⟨h3_⟩
        have n4_ : Aside0 (w43.heap[gb247]? = some (.cells #[.bool false, .int .u64 0, .int .u64 0] 50 (0, 0))) := ⟨h4_⟩
        have n5_ : Aside0 (w.heap.size ≤ gb247) := ⟨h5_⟩
        have n6_ : Aside0 (w.heap.size ≤ gb247) := ⟨h6_⟩
        have n7_ : Aside0 (gb218 ≠ gb247) := ⟨h7_⟩
        have n8_ : Aside0 (gb247 ≠ gb218) := ⟨h8_⟩
        have n9_ : Aside0 (gb219 ≠ gb247) := ⟨h9_⟩
        have n10_ : Aside0 (gb247 ≠ gb219) := ⟨h10_⟩
        have n11_ : Aside0 (gb220 ≠ gb247) := ⟨h11_⟩
        have n12_ : Aside0 (gb247 ≠ gb220) := ⟨h12_⟩
        have n13_ : Aside0 (gb234 ≠ gb247) := ⟨h13_⟩
        have n14_ : Aside0 (gb247 ≠ gb234) := ⟨h14_⟩
        have n15_ : Aside0 (Below w.heap.size w w43) := ⟨h15_⟩
        clear BK218
        clear BK219
        clear BK220
        clear BK234
        clear HB
        clear h0_ h1_ h2_ h3_ h4_ h5_ h6_ h7_ h8_ h9_ h10_ h11_ h12_ h13_ h14_ h15_
        have BK218 := n0_
        have BK219 := n1_
        have BK220 := n2_
        have BK234 := n3_
        have BK247 := n4_
        have GW247 := n5_
        have GE247 := n6_
        have NB218_247 := n7_
        have NB247_218 := n8_
        have NB219_247 := n9_
        have NB247_219 := n10_
        have NB220_247 := n11_
        have NB247_220 := n12_
        have NB234_247 := n13_
        have NB247_234 := n14_
        have HB := n15_
        clear n0_ n1_ n2_ n3_ n4_ n5_ n6_ n7_ n8_ n9_ n10_ n11_ n12_ n13_ n14_ n15_
        have hHeld : c_ w43 gb219 0 (.int .i64 t223) ∧ c_ w43 gb219 1 (.int .i64 t224) ∧ c_ w43 gb218 0 (.int .i64 t221) ∧ c_ w43 gb218 1 (.int .i64 t222) := hS_
        refine norm_ (a' := ?_) ?_ ?_
        rotate_left
        · simp only [putAll, Act.put, si, s0, s1]
          rfl
        refine o1_ 8 (some 29) (m_ 11 1023) rfl rfl (oo HT_) (fun K hK => ?_)
        refine goesU_ Tryd.func38 (by kernel_rfl) rfl #[.agg #[.bool t241, .int .u64 t242, .int .u64 t243]] (by rfl) rfl rfl rfl ag ?_
        with_reducible refine (frac_Add_1.calls _ _ _ _ _ _ _ A11.out).mono ?_
        rintro e w44 ⟨rfl, hb⟩
        refine ⟨_, rfl, ?_⟩
        replace BK218 := bb BK218 hb
        replace BK219 := bb BK219 hb
        replace BK220 := bb BK220 hb
        replace BK234 := bb BK234 hb
        replace BK247 := bb BK247 hb
        replace HB := bs HB hb
        (try clear hb)
        refine hK.out _ _ ⟨ct BK219 0, ct BK219 1, ct BK218 0, ct BK218 1⟩ (fun hHeld => ?_)
        clear hK K
        refine nr_ (some 29) ?_
        exact norm_ (by first | (simp only [putAll, Act.put, si, s0, s1]; done) | (simp only [putAll, Act.put, si, s0, s1]; rfl)) (hJ3_6_7_8_9 (gb247) _ ⟨hHeld, (bx BK218), (bx BK219), (bx BK220), (bx BK234), (bx BK247), GW247.out, GE247.out, NB218_247.out, NB247_218.out, NB219_247.out, NB247_219.out, NB220_247.out, NB247_220.out, NB234_247.out, NB247_234.out, (bf HB)⟩)
    · skip
      rintro _ w43 ⟨hS_, h0_, h1_, h2_, h3_, h4_⟩
      have n0_ : Aside0 (w43.heap[gb218]? = some (.cells #[.int .i64 t221, .int .i64 t222] 23 (0, 0))) := ⟨h0_⟩
      have n1_ : Aside0 (w43.heap[gb219]? = some (.cells #[.int .i64 t223, .int .i64 t224] 23 (0, 0))) := ⟨h1_⟩
      have n2_ : Aside0 (w43.heap[gb220]? = some (.cells #[.int .i64 0, .int .i64 0] 23 (0, 0))) := ⟨h2_⟩
      have n3_ : Aside0 (w43.heap[gb234]? = some (.cells #[.bool t231, .int .u64 t232, .int .u64 t233] 50 (0, 0))) := ⟨h3_⟩
      have n4_ : Aside0 (Below w.heap.size w w43) := ⟨h4_⟩
      clear BK218
      clear BK219
      clear BK220
      clear BK234
      clear HB
      clear h0_ h1_ h2_ h3_ h4_
      have BK218 := n0_
      have BK219 := n1_
      have BK220 := n2_
      have BK234 := n3_
      have HB := n4_
      clear n0_ n1_ n2_ n3_ n4_
      have hHeld : c_ w43 gb219 0 (.int .i64 t223) ∧ c_ w43 gb219 1 (.int .i64 t224) ∧ c_ w43 gb218 0 (.int .i64 t221) ∧ c_ w43 gb218 1 (.int .i64 t222) := hS_
      refine norm_ (a' := ?_) ?_ ?_
      rotate_left
      · simp only [putAll, Act.put, si, s0, s1]
        rfl
      refine o1_ 9 (some 9) (m_ 11 1023) rfl rfl (oo HT_) (fun K hK => ?_)
      refine box_step ?hg (N := 9) ?hd (cs := #[.bool false, .int .u64 0, .int .u64 0]) (t := 50) ?hr ?_; (case hd => rfl); (case hg => rfl); (case hr => first | (go_simp; done) | (go_simp; rfl))
      intro gb247 hg w44 hbox hb
      have BK247 := Aside0.mk (hbox)
      have GW247 := bz HB hg
      have GE247 := bz HB hg
      have NB218_247 := bl BK218 hg
      have NB247_218 := bg BK218 hg
      have NB219_247 := bl BK219 hg
      have NB247_219 := bg BK219 hg
      have NB220_247 := bl BK220 hg
      have NB247_220 := bg BK220 hg
      have NB234_247 := bl BK234 hg
      have NB247_234 := bg BK234 hg
      replace BK218 := bb BK218 hb
      replace BK219 := bb BK219 hb
      replace BK220 := bb BK220 hb
      replace BK234 := bb BK234 hb
      replace HB := bs HB hb
      clear hb hg
      refine hK.out _ _ ⟨ct BK219 0, ct BK219 1, ct BK218 0, ct BK218 1⟩ (fun hHeld => ?_)
      clear hK K
      refine nr_ (some 9) ?_
      exact norm_ (by first | (simp only [putAll, Act.put, si, s0, s1]; done) | (simp only [putAll, Act.put, si, s0, s1]; rfl)) (hJ3_6_7_8_9 (gb247) _ ⟨hHeld, (bx BK218), (bx BK219), (bx BK220), (bx BK234), (bx BK247), GW247.out, GE247.out, NB218_247.out, NB247_218.out, NB219_247.out, NB247_219.out, NB220_247.out, NB247_220.out, NB234_247.out, NB247_234.out, (bf HB)⟩)
  rintro gb247 w44 ⟨hS_, h0_, h1_, h2_, h3_, h4_, h5_, h6_, h7_, h8_, h9_, h10_, h11_, h12_, h13_, h14_, h15_⟩
  have n0_ : Aside0 (w44.heap[gb218]? = some (.cells #[.int .i64 t221, .int .i64 t222] 23 (0, 0))) := ⟨h0_⟩
  have n1_ : Aside0 (w44.heap[gb219]? = some (.cells #[.int .i64 t223, .int .i64 t224] 23 (0, 0))) := ⟨h1_⟩
  have n2_ : Aside0 (w44.heap[gb220]? = some (.cells #[.int .i64 0, .int .i64 0] 23 (0, 0))) := ⟨h2_⟩
  have n3_ : Aside0 (w44.heap[gb234]? = some (.cells #[.bool t231, .int .u64 t232, .int .u64 t233] 50 (0, 0))) := ⟨h3_⟩
  have n4_ : Aside0 (w44.heap[gb247]? = some (.cells #[.bool false, .int .u64 0, .int .u64 0] 50 (0, 0))) := ⟨h4_⟩
  have n5_ : Aside0 (w.heap.size ≤ gb247) := ⟨h5_⟩
  have n6_ : Aside0 (w.heap.size ≤ gb247) := ⟨h6_⟩
  have n7_ : Aside0 (gb218 ≠ gb247) := ⟨h7_⟩
  have n8_ : Aside0 (gb247 ≠ gb218) := ⟨h8_⟩
  have n9_ : Aside0 (gb219 ≠ gb247) := ⟨h9_⟩
  have n10_ : Aside0 (gb247 ≠ gb219) := ⟨h10_⟩
  have n11_ : Aside0 (gb220 ≠ gb247) := ⟨h11_⟩
  have n12_ : Aside0 (gb247 ≠ gb220) := ⟨h12_⟩
  have n13_ : Aside0 (gb234 ≠ gb247) := ⟨h13_⟩
  have n14_ : Aside0 (gb247 ≠ gb234) := ⟨h14_⟩
  have n15_ : Aside0 (Below w.heap.size w w44) := ⟨h15_⟩
  clear BK218
  clear BK219
  clear BK220
  clear BK234
  clear HB
  clear h0_ h1_ h2_ h3_ h4_ h5_ h6_ h7_ h8_ h9_ h10_ h11_ h12_ h13_ h14_ h15_
  have BK218 := n0_
  have BK219 := n1_
  have BK220 := n2_
  have BK234 := n3_
  have BK247 := n4_
  have GW247 := n5_
  have GE247 := n6_
  have NB218_247 := n7_
  have NB247_218 := n8_
  have NB219_247 := n9_
  have NB247_219 := n10_
  have NB220_247 := n11_
  have NB247_220 := n12_
  have NB234_247 := n13_
  have NB247_234 := n14_
  have HB := n15_
  clear n0_ n1_ n2_ n3_ n4_ n5_ n6_ n7_ n8_ n9_ n10_ n11_ n12_ n13_ n14_ n15_
  have hHeld : c_ w44 gb219 0 (.int .i64 t223) ∧ c_ w44 gb219 1 (.int .i64 t224) ∧ c_ w44 gb218 0 (.int .i64 t221) ∧ c_ w44 gb218 1 (.int .i64 t222) := hS_
  refine norm_ (a' := ?_) ?_ ?_
  rotate_left
  · simp only [putAll, Act.put, si, s0, s1]
    rfl
  refine o1_ 10 (none) (m_ 11 2047) rfl rfl (oo HT_) (fun K hK => ?_)
  have hs45 : c_ w44 gb247 0 (.bool false) := ct BK247 0
  have hfs45 := blk_frozen BK247.out 0
  have hns45_0 := NB218_247.out
  have hns45_1 := NB219_247.out
  have hns45_2 := NB220_247.out
  have hns45_3 := NB234_247.out
  have hms45_0 := NB247_218.out
  have hms45_1 := NB247_219.out
  have hms45_2 := NB247_220.out
  have hms45_3 := NB247_234.out
  have hs46 : c_ w44 gb247 1 (.int .u64 0) := ct BK247 1
  have hfs46 := blk_frozen BK247.out 1
  have hns46_0 := NB218_247.out
  have hns46_1 := NB219_247.out
  have hns46_2 := NB220_247.out
  have hns46_3 := NB234_247.out
  have hms46_0 := NB247_218.out
  have hms46_1 := NB247_219.out
  have hms46_2 := NB247_220.out
  have hms46_3 := NB247_234.out
  have hs47 : c_ w44 gb247 2 (.int .u64 0) := ct BK247 2
  have hfs47 := blk_frozen BK247.out 2
  have hns47_0 := NB218_247.out
  have hns47_1 := NB219_247.out
  have hns47_2 := NB220_247.out
  have hns47_3 := NB234_247.out
  have hms47_0 := NB247_218.out
  have hms47_1 := NB247_219.out
  have hms47_2 := NB247_220.out
  have hms47_3 := NB247_234.out
  refine skip_ (w1 := ?_) (by rfl) rfl ?_ ?_
  rotate_left
  · go_simp
    rfl
  refine hK.out _ _ ⟨((cell_far (p := ⟨gb247, _, none⟩) NB219_247.out _).trans (((cell_far (p := ⟨gb247, _, none⟩) NB219_247.out _).trans (((cell_far (p := ⟨gb247, _, none⟩) NB219_247.out _).trans (hHeld.1)))))), ((cell_far (p := ⟨gb247, _, none⟩) NB219_247.out _).trans (((cell_far (p := ⟨gb247, _, none⟩) NB219_247.out _).trans (((cell_far (p := ⟨gb247, _, none⟩) NB219_247.out _).trans (hHeld.2.1)))))), ((cell_far (p := ⟨gb247, _, none⟩) NB218_247.out _).trans (((cell_far (p := ⟨gb247, _, none⟩) NB218_247.out _).trans (((cell_far (p := ⟨gb247, _, none⟩) NB218_247.out _).trans (hHeld.2.2.1)))))), ((cell_far (p := ⟨gb247, _, none⟩) NB218_247.out _).trans (((cell_far (p := ⟨gb247, _, none⟩) NB218_247.out _).trans (((cell_far (p := ⟨gb247, _, none⟩) NB218_247.out _).trans (hHeld.2.2.2))))))⟩ (fun hHeld => ?_)
  clear hK K
  refine done_ (done_of HT_.out (by kernel_rfl)) ?_
  try go_wp2
  have n0_ : Aside0 ((((w44.setCell ⟨gb247, 0, none⟩ (.bool t244)).setCell ⟨gb247, 1, none⟩ (.int .u64 t245)).setCell ⟨gb247, 2, none⟩ (.int .u64 t246)).heap[gb218]? = some (.cells #[.int .i64 t221, .int .i64 t222] 23 (0, 0))) := bu_ BK218
  have n1_ : Aside0 ((((w44.setCell ⟨gb247, 0, none⟩ (.bool t244)).setCell ⟨gb247, 1, none⟩ (.int .u64 t245)).setCell ⟨gb247, 2, none⟩ (.int .u64 t246)).heap[gb219]? = some (.cells #[.int .i64 t223, .int .i64 t224] 23 (0, 0))) := bu_ BK219
  have n2_ : Aside0 ((((w44.setCell ⟨gb247, 0, none⟩ (.bool t244)).setCell ⟨gb247, 1, none⟩ (.int .u64 t245)).setCell ⟨gb247, 2, none⟩ (.int .u64 t246)).heap[gb220]? = some (.cells #[.int .i64 0, .int .i64 0] 23 (0, 0))) := bu_ BK220
  have n3_ : Aside0 ((((w44.setCell ⟨gb247, 0, none⟩ (.bool t244)).setCell ⟨gb247, 1, none⟩ (.int .u64 t245)).setCell ⟨gb247, 2, none⟩ (.int .u64 t246)).heap[gb234]? = some (.cells #[.bool t231, .int .u64 t232, .int .u64 t233] 50 (0, 0))) := bu_ BK234
  have n4_ : Aside0 ((((w44.setCell ⟨gb247, 0, none⟩ (.bool t244)).setCell ⟨gb247, 1, none⟩ (.int .u64 t245)).setCell ⟨gb247, 2, none⟩ (.int .u64 t246)).heap[gb247]? = some (.cells #[.bool t244, .int .u64 t245, .int .u64 t246] 50 (0, 0))) := bq_ BK247
  have n5_ : Aside0 (Below w.heap.size w (((w44.setCell ⟨gb247, 0, none⟩ (.bool t244)).setCell ⟨gb247, 1, none⟩ (.int .u64 t245)).setCell ⟨gb247, 2, none⟩ (.int .u64 t246))) := ⟨bf HB⟩
  (try clear BK218); (try clear BK219); (try clear BK220); (try clear BK234); (try clear BK247); (try clear HB)
  generalize (((w44.setCell ⟨gb247, 0, none⟩ (.bool t244)).setCell ⟨gb247, 1, none⟩ (.int .u64 t245)).setCell ⟨gb247, 2, none⟩ (.int .u64 t246)) = w48 at n0_ n1_ n2_ n3_ n4_ n5_ ⊢
  have BK218 := n0_
  have BK219 := n1_
  have BK220 := n2_
  have BK234 := n3_
  have BK247 := n4_
  have HB := n5_
  clear n0_ n1_ n2_ n3_ n4_ n5_
  replace BK218 := Aside0.mk (blk_drew BK218.out)
  replace BK219 := Aside0.mk (blk_drew BK219.out)
  replace BK220 := Aside0.mk (blk_drew BK220.out)
  replace BK234 := Aside0.mk (blk_drew BK234.out)
  replace BK247 := Aside0.mk (blk_drew BK247.out)
  replace HB := Aside0.mk (below_drew1 HB.out)
  refine start_ (n := 15) (S := fun w' => c_ w' gb234 0 (.bool t231) ∧ c_ w' gb234 1 (.int .u64 t232) ∧ c_ w' gb234 2 (.int .u64 t233) ∧ c_ w' gb247 0 (.bool t244) ∧ c_ w' gb247 1 (.int .u64 t245) ∧ c_ w' gb247 2 (.int .u64 t246) ∧ c_ w' gb218 0 (.int .i64 t221) ∧ c_ w' gb218 1 (.int .i64 t222) ∧ c_ w' gb219 0 (.int .i64 t223) ∧ c_ w' gb219 1 (.int .i64 t224)) (ds := []) (m_ 15 0) (by kernel_rfl) rfl rfl ⟨ct BK234 0, ct BK234 1, ct BK234 2, ct BK247 0, ct BK247 1, ct BK247 2, ct BK218 0, ct BK218 1, ct BK219 0, ct BK219 1⟩ (fun hHeld => ?_); refine with_tabW frac_added_fn38.tab4 frac_added_fn38.bits4 (fun HT_ HW_ => ?_)
  generalize w48.drew = w49 at BK218 BK219 BK220 BK234 BK247 HB hHeld ⊢
  refine pu_ 3 (some 33) (m_ 15 8) rfl rfl (ao HT_) ?_
  refine pu_ 6 (some 36) (m_ 15 72) rfl rfl (ao HT_) ?_
  refine tk_ 0 (some 30) (m_ 15 73) rfl rfl (tw HT_ HW_) hHeld ?_
  refine tk_ 1 (some 31) (m_ 15 75) rfl rfl (tw HT_ HW_) hHeld ?_
  refine tk_ 4 (some 34) (m_ 15 91) rfl rfl (tw HT_ HW_) hHeld ?_
  refine tk_ 7 (some 37) (m_ 15 219) rfl rfl (tw HT_ HW_) hHeld ?_
  refine o1_ 2 (some 32) (m_ 15 223) rfl rfl (oo HT_) (fun K hK => ?_)
  refine gs_ rfl Tryd.func67 (frac_signed_plus.calls _ _ _ _ _ _ _ _ _ _ A12.out) ag ?_
  intro w50 hb
  replace BK218 := bb BK218 hb
  replace BK219 := bb BK219 hb
  replace BK220 := bb BK220 hb
  replace BK234 := bb BK234 hb
  replace BK247 := bb BK247 hb
  replace HB := bs HB hb
  (try clear hb)
  refine hK.out _ _ ⟨ct BK234 0, ct BK234 1, ct BK234 2, ct BK247 0, ct BK247 1, ct BK247 2, ct BK218 0, ct BK218 1, ct BK219 0, ct BK219 1⟩ (fun hHeld => ?_)
  clear hK K
  refine nr_ (some 32) ?_
  refine o1_ 5 (some 35) (m_ 15 255) rfl rfl (oo HT_) (fun K hK => ?_)
  refine gs_ rfl Tryd.func52 (frac_sized.calls _ _ _ _ _ A13.out) ag ?_
  intro w51 hb
  replace BK218 := bb BK218 hb
  replace BK219 := bb BK219 hb
  replace BK220 := bb BK220 hb
  replace BK234 := bb BK234 hb
  replace BK247 := bb BK247 hb
  replace HB := bs HB hb
  (try clear hb)
  refine hK.out _ _ ⟨ct BK234 0, ct BK234 1, ct BK234 2, ct BK247 0, ct BK247 1, ct BK247 2, ct BK218 0, ct BK218 1, ct BK219 0, ct BK219 1⟩ (fun hHeld => ?_)
  clear hK K
  refine nr_ (some 35) ?_
  refine o1_ 8 (some 38) (m_ 15 511) rfl rfl (oo HT_) (fun K hK => ?_)
  refine gs_ rfl Tryd.func52 (frac_sized.calls _ _ _ _ _ A14.out) ag ?_
  intro w52 hb
  replace BK218 := bb BK218 hb
  replace BK219 := bb BK219 hb
  replace BK220 := bb BK220 hb
  replace BK234 := bb BK234 hb
  replace BK247 := bb BK247 hb
  replace HB := bs HB hb
  (try clear hb)
  refine hK.out _ _ ⟨ct BK234 0, ct BK234 1, ct BK234 2, ct BK247 0, ct BK247 1, ct BK247 2, ct BK218 0, ct BK218 1, ct BK219 0, ct BK219 1⟩ (fun hHeld => ?_)
  clear hK K
  refine nr_ (some 38) ?_
  refine o1_ 9 (some 39) (m_ 15 1023) rfl rfl (oo HT_) (fun K hK => ?_)
  refine gs_ rfl Tryd.func57 (frac_signed_times.calls _ _ _ _ _ _ _ _ _ _ A15.out) ag ?_
  intro w53 hb
  replace BK218 := bb BK218 hb
  replace BK219 := bb BK219 hb
  replace BK220 := bb BK220 hb
  replace BK234 := bb BK234 hb
  replace BK247 := bb BK247 hb
  replace HB := bs HB hb
  (try clear hb)
  refine hK.out _ _ ⟨ct BK234 0, ct BK234 1, ct BK234 2, ct BK247 0, ct BK247 1, ct BK247 2, ct BK218 0, ct BK218 1, ct BK219 0, ct BK219 1⟩ (fun hHeld => ?_)
  clear hK K
  refine nr_ (some 39) ?_
  refine o1_ 10 (some 40) (m_ 15 2047) rfl rfl (oo HT_) (fun K hK => ?_)
  refine gs_ rfl Tryd.func51 (frac_reduced.calls _ _ _ _ _ _ _ _ _ _ _ A16.out (tt GT)) ag ?_
  intro w54 hb
  replace BK218 := bb BK218 hb
  replace BK219 := bb BK219 hb
  replace BK220 := bb BK220 hb
  replace BK234 := bb BK234 hb
  replace BK247 := bb BK247 hb
  replace HB := bs HB hb
  (try clear hb)
  refine hK.out _ _ ⟨ct BK234 0, ct BK234 1, ct BK234 2, ct BK247 0, ct BK247 1, ct BK247 2, ct BK218 0, ct BK218 1, ct BK219 0, ct BK219 1⟩ (fun hHeld => ?_)
  clear hK K
  refine nr_ (some 40) ?_
  refine pu_ 11 (some 41) (m_ 15 4095) rfl rfl (ao HT_) ?_
  refine pu_ 12 (some 42) (m_ 15 8191) rfl rfl (ao HT_) ?_
  refine o1_ 13 (none) (m_ 15 16383) rfl rfl (oo HT_) (fun K hK => ?_)
  have hs55 : c_ w54 gb220 0 (.int .i64 0) := ct BK220 0
  have hfs55 := blk_frozen BK220.out 0
  have hns55_0 := NB218_220.out
  have hns55_1 := NB219_220.out
  have hns55_3 := NB234_220.out
  have hns55_4 := NB247_220.out
  have hms55_0 := NB220_218.out
  have hms55_1 := NB220_219.out
  have hms55_3 := NB220_234.out
  have hms55_4 := NB220_247.out
  have hs56 : c_ w54 gb220 1 (.int .i64 0) := ct BK220 1
  have hfs56 := blk_frozen BK220.out 1
  have hns56_0 := NB218_220.out
  have hns56_1 := NB219_220.out
  have hns56_3 := NB234_220.out
  have hns56_4 := NB247_220.out
  have hms56_0 := NB220_218.out
  have hms56_1 := NB220_219.out
  have hms56_3 := NB220_234.out
  have hms56_4 := NB220_247.out
  refine skip_ (w1 := ?_) (by rfl) rfl ?_ ?_
  rotate_left
  · go_simp
    rfl
  refine hK.out _ _ ⟨((cell_far (p := ⟨gb220, _, none⟩) NB234_220.out _).trans (((cell_far (p := ⟨gb220, _, none⟩) NB234_220.out _).trans (hHeld.1)))), ((cell_far (p := ⟨gb220, _, none⟩) NB234_220.out _).trans (((cell_far (p := ⟨gb220, _, none⟩) NB234_220.out _).trans (hHeld.2.1)))), ((cell_far (p := ⟨gb220, _, none⟩) NB234_220.out _).trans (((cell_far (p := ⟨gb220, _, none⟩) NB234_220.out _).trans (hHeld.2.2.1)))), ((cell_far (p := ⟨gb220, _, none⟩) NB247_220.out _).trans (((cell_far (p := ⟨gb220, _, none⟩) NB247_220.out _).trans (hHeld.2.2.2.1)))), ((cell_far (p := ⟨gb220, _, none⟩) NB247_220.out _).trans (((cell_far (p := ⟨gb220, _, none⟩) NB247_220.out _).trans (hHeld.2.2.2.2.1)))), ((cell_far (p := ⟨gb220, _, none⟩) NB247_220.out _).trans (((cell_far (p := ⟨gb220, _, none⟩) NB247_220.out _).trans (hHeld.2.2.2.2.2.1)))), ((cell_far (p := ⟨gb220, _, none⟩) NB218_220.out _).trans (((cell_far (p := ⟨gb220, _, none⟩) NB218_220.out _).trans (hHeld.2.2.2.2.2.2.1)))), ((cell_far (p := ⟨gb220, _, none⟩) NB218_220.out _).trans (((cell_far (p := ⟨gb220, _, none⟩) NB218_220.out _).trans (hHeld.2.2.2.2.2.2.2.1)))), ((cell_far (p := ⟨gb220, _, none⟩) NB219_220.out _).trans (((cell_far (p := ⟨gb220, _, none⟩) NB219_220.out _).trans (hHeld.2.2.2.2.2.2.2.2.1)))), ((cell_far (p := ⟨gb220, _, none⟩) NB219_220.out _).trans (((cell_far (p := ⟨gb220, _, none⟩) NB219_220.out _).trans (hHeld.2.2.2.2.2.2.2.2.2))))⟩ (fun hHeld => ?_)
  clear hK K
  refine pu_ 14 (some 7) (m_ 15 32767) rfl rfl (ao HT_) ?_
  refine done_ (done_of HT_.out (by kernel_rfl)) ?_
  try go_wp2
  refine bodyPost_ret (results_ct rfl _ _ gb220 23 #[.int .i64 t260, .int .i64 t261] (0, 0) _ rfl (br_ BK220) Tryd.underlying23 rfl (by kernel_rfl)) rfl ?_
  exact ⟨ae, bf HB⟩

end Go.Proofs.YtjgnaccamakpdaaDoor.X
