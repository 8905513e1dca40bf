/- Walks: each '.calls' says that the Go function comes to what its Lean function tells. Conditions: as each theorem's head says. -/
import Derived.Test.YtjgnaccamakpdaaDoorXD
import Derived.Test.YtjgnaccamakpdaaDoorX0
import Derived.Test.YtjgnaccamakpdaaDoorX7
import Derived.Test.YtjgnaccamakpdaaDoorX8
import Derived.Test.YtjgnaccamakpdaaDoorX9
namespace Go.Proofs.YtjgnaccamakpdaaDoor.X
open Go.RowKit Go.Proofs.YtjgnaccamakpdaaDoorW.PrintWords Go.Proofs.YtjgnaccamakpdaaDoorW.PrintLast Go.Proofs.YtjgnaccamakpdaaDoorW.PrintMore
attribute [local go_sem] max2_int min2_int max_two min_two max_three min_three max_four min_four   -- for this text's walks alone
set_option linter.unusedVariables false
set_option maxHeartbeats 8000000
set_option maxRecDepth 100000
set_option linter.unusedSimpArgs false

/-! ### frac_added_fn38: function 900000 -/
def frac_added_fn38.T2 : Bool × List (List Nat × List Nat) := (true, [([], []), ([0], [0]), ([1], [1]), ([], []), ([3], [3]), ([4, 2], [4]), ([2, 5, 5], [2, 5]), ([], []), ([7, 6, 6, 0, 1, 2, 3, 4, 5, 6, 7], [6, 7])])
def frac_added_fn38.B2 : List Nat := [0, 1, 3, 0, 8, 31, 63, 0, 255]
theorem frac_added_fn38.tab2 : rtab .any (opsOf Tryd.f37 2) = frac_added_fn38.T2 := by kernel_rfl
theorem frac_added_fn38.bits2 : waitsOk frac_added_fn38.T2.2 frac_added_fn38.B2 = true := by kernel_rfl
def frac_added_fn38.T3 : Bool × List (List Nat × List Nat) := (true, [([], []), ([], []), ([1], [1]), ([2], [2]), ([], []), ([4], [4]), ([5, 3], [5]), ([3, 6, 6], [3, 6]), ([0, 7, 7], [0, 7]), ([], []), ([9, 8, 8, 0, 1, 2, 3, 4, 5, 6, 7, 8, 9], [8, 9])])
def frac_added_fn38.B3 : List Nat := [0, 0, 2, 6, 0, 16, 62, 126, 255, 0, 1023]
theorem frac_added_fn38.tab3 : rtab .any (opsOf Tryd.f37 3) = frac_added_fn38.T3 := by kernel_rfl
theorem frac_added_fn38.bits3 : waitsOk frac_added_fn38.T3.2 frac_added_fn38.B3 = true := by kernel_rfl
def frac_added_fn38.T4 : Bool × List (List Nat × List Nat) := (true, [([], []), ([], []), ([0, 1], [0, 1]), ([], []), ([3], [3]), ([4, 2], [4]), ([], []), ([6], [6]), ([7, 5], [7]), ([5, 8, 8], [5, 8]), ([2, 9, 9], [2, 9]), ([10], [10]), ([10], [10]), ([11, 10, 0, 1, 2, 3, 4, 5, 6, 7, 8, 9, 10, 11, 12], [11]), ([12, 13, 0, 1, 2, 3, 4, 5, 6, 7, 8, 9, 10, 11, 12, 13], [12])])
def frac_added_fn38.B4 : List Nat := [0, 0, 3, 0, 8, 31, 0, 64, 255, 511, 1023, 2047, 2047, 8191, 16383]
theorem frac_added_fn38.tab4 : rtab .any (opsOf Tryd.f37 4) = frac_added_fn38.T4 := by kernel_rfl
theorem frac_added_fn38.bits4 : waitsOk frac_added_fn38.T4.2 frac_added_fn38.B4 = true := by kernel_rfl
theorem frac_added_fn38.calls (k : Nat) (a0_0 : Int) (a0_1 : Int) (a1_0 : Int) (a1_1 : Int) (r1 : Int) (r2 : Int) (r3 : Int) (w : World) (h : frac_added_fn38.f k a0_0 a0_1 a1_0 a1_1 = some (r1, r2, r3)) (hT : TabOK w) :
    Calls Tryd.prog 37 #[.agg #[.int .i64 a0_0, .int .i64 a0_1], .agg #[.int .i64 a1_0, .int .i64 a1_1], .func (.func 38) #[] #[]] w fun e w' => e = .returned (.tuple #[.agg #[.int .i64 r1, .int .i64 r2], .int .i64 r3]) ∧ Below w.heap.size w w' := by
  have GT := Aside0.mk hT
  clear hT
  have hu23 := Tryd.underlying23
  have hu50 := Tryd.underlying50
  have HB := Aside0.mk (Below.refl w.heap.size w)
  have H : ((frac_norm.f k a0_0 a0_1).bind fun bt219 => ((frac_norm.f k a1_0 a1_1).bind fun bt221 => ((frac_sized.f bt219.1).bind fun bt223 => ((frac_sized.f bt221.2).bind fun bt226 => ((frac_signed_times.f bt223.1 bt223.2.1 bt223.2.2 bt226.1 bt226.2.1 bt226.2.2).bind fun bt229 => ((frac_sized.f bt221.1).bind fun bt233 => ((frac_sized.f bt219.2).bind fun bt236 => ((frac_signed_times.f bt233.1 bt233.2.1 bt233.2.2 bt236.1 bt236.2.1 bt236.2.2).bind fun bt239 => ((frac_Add_1.f bt239.1 bt239.2.1 bt239.2.2).bind fun bt242 => ((frac_signed_plus.f bt229.1 bt229.2.1 bt229.2.2 bt242.1 bt242.2.1 bt242.2.2).bind fun bt246 => ((frac_sized.f bt219.2).bind fun bt249 => ((frac_sized.f bt221.2).bind fun bt252 => ((frac_signed_times.f bt249.1 bt249.2.1 bt249.2.2 bt252.1 bt252.2.1 bt252.2.2).bind fun bt255 => ((frac_reduced.f k bt246.1 bt246.2.1 bt246.2.2 bt255.1 bt255.2.1 bt255.2.2).bind fun bt258 => (some (bt258.1, bt258.2.1, bt258.2.2)))))))))))))))) = some (r1, r2, r3) := h
  clear h
  replace H := bi_ H; obtain ⟨⟨t219, t220⟩, A3, H⟩ := H
  (try dsimp only at H)
  replace H := bi_ H; obtain ⟨⟨t221, t222⟩, A4, H⟩ := H
  (try dsimp only at H)
  replace H := bi_ H; obtain ⟨⟨t223, t224, t225⟩, A5, H⟩ := H
  (try dsimp only at H)
  replace H := bi_ H; obtain ⟨⟨t226, t227, t228⟩, A6, H⟩ := H
  (try dsimp only at H)
  replace H := bi_ H; obtain ⟨⟨t229, t230, t231⟩, A7, H⟩ := H
  (try dsimp only at H)
  replace H := bi_ H; obtain ⟨⟨t233, t234, t235⟩, A8, H⟩ := H
  (try dsimp only at H)
  replace H := bi_ H; obtain ⟨⟨t236, t237, t238⟩, A9, H⟩ := H
  (try dsimp only at H)
  replace H := bi_ H; obtain ⟨⟨t239, t240, t241⟩, A10, H⟩ := H
  (try dsimp only at H)
  replace H := bi_ H; obtain ⟨⟨t242, t243, t244⟩, A11, H⟩ := H
  (try dsimp only at H)
  replace H := bi_ H; obtain ⟨⟨t246, t247, t248⟩, A12, H⟩ := H
  (try dsimp only at H)
  replace H := bi_ H; obtain ⟨⟨t249, t250, t251⟩, A13, H⟩ := H
  (try dsimp only at H)
  replace H := bi_ H; obtain ⟨⟨t252, t253, t254⟩, A14, H⟩ := H
  (try dsimp only at H)
  replace H := bi_ H; obtain ⟨⟨t255, t256, t257⟩, A15, H⟩ := H
  (try dsimp only at H)
  replace H := bi_ H; obtain ⟨⟨t258, t259, t260⟩, A16, H⟩ := H
  (try dsimp only at H)
  simp only [Option.some.injEq, Prod.mk.injEq] at H
  obtain ⟨rfl, rfl, rfl⟩ := H
  go_enter Tryd.func37, Tryd.ntmps37
  try go_wp2_with (first | ((with_reducible refine gd 3 rfl ?_); refine bx_ 3 23 #[.int .i64 a0_0, .int .i64 a0_1] rfl rfl ?_; intro gb216 hg w17 BK216 hb; have GE216 := bz HB hg; replace HB := bs HB hb; clear hb hg) | ((with_reducible refine gd 4 rfl ?_); refine bx_ 4 23 #[.int .i64 a1_0, .int .i64 a1_1] rfl rfl ?_; intro gb217 hg w18 BK217 hb; have GE217 := bz HB hg; have ⟨NB216_217, NB217_216⟩ := nb BK216 hg; replace BK216 := bb BK216 hb; replace HB := bs HB hb; clear hb hg) | ((with_reducible refine gd 6 rfl ?_); refine bx_ 6 23 #[.int .i64 0, .int .i64 0] rfl rfl ?_; intro gb218 hg w19 BK218 hb; have GE218 := bz HB hg; have ⟨NB216_218, NB218_216⟩ := nb BK216 hg; have ⟨NB217_218, NB218_217⟩ := nb BK217 hg; replace BK216 := bb BK216 hb; replace BK217 := bb BK217 hb; replace HB := bs HB hb; clear hb hg))
  replace BK216 := Aside0.mk (blk_drew BK216.out)
  replace BK217 := Aside0.mk (blk_drew BK217.out)
  replace BK218 := Aside0.mk (blk_drew BK218.out)
  replace HB := Aside0.mk (below_drew1 HB.out)
  refine start_ (n := 6) (S := fun w' => c_ w' gb216 0 (.int .i64 a0_0) ∧ c_ w' gb216 1 (.int .i64 a0_1) ∧ c_ w' gb217 0 (.int .i64 a1_0) ∧ c_ w' gb217 1 (.int .i64 a1_1)) (ds := [4, 5]) (m_ 6 0) (by kernel_rfl) rfl rfl ⟨ct BK216 0, ct BK216 1, ct BK217 0, ct BK217 1⟩ (fun hHeld => ?_)
  generalize w19.drew = w20 at BK216 BK217 BK218 HB hHeld ⊢
  refine tk_ 0 (some 10) (m_ 6 1) rfl rfl (by kernel_rfl) hHeld ?_
  refine tk_ 2 (some 12) (m_ 6 5) rfl rfl (by kernel_rfl) hHeld ?_
  refine o1_ 1 (some 11) (m_ 6 7) rfl rfl (by kernel_rfl) (fun K hK => ?_)
  refine gs_ rfl Tryd.func56 (frac_norm.calls _ _ _ _ _ _ A3.out (tt GT)) ag ?_
  intro w21 hb
  replace BK216 := bb BK216 hb
  replace BK217 := bb BK217 hb
  replace BK218 := bb BK218 hb
  replace HB := bs HB hb
  (try clear hb)
  refine hK.out _ _ ⟨ct BK216 0, ct BK216 1, ct BK217 0, ct BK217 1⟩ (fun hHeld => ?_)
  clear hK K
  refine nr_ (some 11) ?_
  refine o1_ 3 (some 13) (m_ 6 15) rfl rfl (by kernel_rfl) (fun K hK => ?_)
  refine gs_ rfl Tryd.func56 (frac_norm.calls _ _ _ _ _ _ A4.out (tt GT)) ag ?_
  intro w22 hb
  replace BK216 := bb BK216 hb
  replace BK217 := bb BK217 hb
  replace BK218 := bb BK218 hb
  replace HB := bs HB hb
  (try clear hb)
  refine hK.out _ _ ⟨ct BK216 0, ct BK216 1, ct BK217 0, ct BK217 1⟩ (fun hHeld => ?_)
  clear hK K
  refine nr_ (some 13) ?_
  refine last_ (i := 4) (N := none) (m_ 6 31) rfl rfl (by kernel_rfl) (by decide) (fun K hK => ?_)
  have hs23 : c_ w22 gb216 0 (.int .i64 a0_0) := ct BK216 0
  have hfs23 := blk_frozen BK216.out 0
  have hns23_1 := NB217_216.out
  have hns23_2 := NB218_216.out
  have hms23_1 := NB216_217.out
  have hms23_2 := NB216_218.out
  have hs24 : c_ w22 gb216 1 (.int .i64 a0_1) := ct BK216 1
  have hfs24 := blk_frozen BK216.out 1
  have hns24_1 := NB217_216.out
  have hns24_2 := NB218_216.out
  have hms24_1 := NB216_217.out
  have hms24_2 := NB216_218.out
  refine skip_ (w1 := ?_) (by rfl) rfl ?_ ?_
  rotate_left
  · go_simp
    rfl
  refine hK.out _ _ ?_
  clear hK K
  refine last_ (i := 5) (N := none) (m_ 6 63) rfl rfl (by kernel_rfl) (by decide) (fun K hK => ?_)
  have hs25 : c_ w22 gb217 0 (.int .i64 a1_0) := ct BK217 0
  have hfs25 := blk_frozen BK217.out 0
  have hns25_0 := NB216_217.out
  have hns25_2 := NB218_217.out
  have hms25_0 := NB217_216.out
  have hms25_2 := NB217_218.out
  have hs26 : c_ w22 gb217 1 (.int .i64 a1_1) := ct BK217 1
  have hfs26 := blk_frozen BK217.out 1
  have hns26_0 := NB216_217.out
  have hns26_2 := NB218_217.out
  have hms26_0 := NB217_216.out
  have hms26_2 := NB217_218.out
  refine skip_ (w1 := ?_) (by rfl) rfl ?_ ?_
  rotate_left
  · go_simp
    rfl
  refine hK.out _ _ ?_
  clear hK K
  refine done_ (by kernel_rfl) ?_
  try go_wp2
  have n0_ : Aside0 (((((w22.setCell ⟨gb216, 0, none⟩ (.int .i64 t219)).setCell ⟨gb216, 1, none⟩ (.int .i64 t220)).setCell ⟨gb217, 0, none⟩ (.int .i64 t221)).setCell ⟨gb217, 1, none⟩ (.int .i64 t222)).heap[gb216]? = some (.cells #[.int .i64 t219, .int .i64 t220] 23 (0, 0))) := bq_ BK216
  have n1_ : Aside0 (((((w22.setCell ⟨gb216, 0, none⟩ (.int .i64 t219)).setCell ⟨gb216, 1, none⟩ (.int .i64 t220)).setCell ⟨gb217, 0, none⟩ (.int .i64 t221)).setCell ⟨gb217, 1, none⟩ (.int .i64 t222)).heap[gb217]? = some (.cells #[.int .i64 t221, .int .i64 t222] 23 (0, 0))) := bq_ BK217
  have n2_ : Aside0 (((((w22.setCell ⟨gb216, 0, none⟩ (.int .i64 t219)).setCell ⟨gb216, 1, none⟩ (.int .i64 t220)).setCell ⟨gb217, 0, none⟩ (.int .i64 t221)).setCell ⟨gb217, 1, none⟩ (.int .i64 t222)).heap[gb218]? = some (.cells #[.int .i64 0, .int .i64 0] 23 (0, 0))) := bu_ BK218
  have n3_ : Aside0 (Below w.heap.size w ((((w22.setCell ⟨gb216, 0, none⟩ (.int .i64 t219)).setCell ⟨gb216, 1, none⟩ (.int .i64 t220)).setCell ⟨gb217, 0, none⟩ (.int .i64 t221)).setCell ⟨gb217, 1, none⟩ (.int .i64 t222))) := ⟨bf HB⟩
  (try clear BK216); (try clear BK217); (try clear BK218); (try clear HB)
  generalize ((((w22.setCell ⟨gb216, 0, none⟩ (.int .i64 t219)).setCell ⟨gb216, 1, none⟩ (.int .i64 t220)).setCell ⟨gb217, 0, none⟩ (.int .i64 t221)).setCell ⟨gb217, 1, none⟩ (.int .i64 t222)) = w27 at n0_ n1_ n2_ n3_ ⊢
  have BK216 := n0_
  have BK217 := n1_
  have BK218 := n2_
  have HB := n3_
  clear n0_ n1_ n2_ n3_
  replace BK216 := Aside0.mk (blk_drew BK216.out)
  replace BK217 := Aside0.mk (blk_drew BK217.out)
  replace BK218 := Aside0.mk (blk_drew BK218.out)
  replace HB := Aside0.mk (below_drew1 HB.out)
  refine start_ (n := 9) (S := fun w' => c_ w' gb216 0 (.int .i64 t219) ∧ c_ w' gb216 1 (.int .i64 t220) ∧ c_ w' gb217 0 (.int .i64 t221) ∧ c_ w' gb217 1 (.int .i64 t222)) (ds := []) (m_ 9 0) (by kernel_rfl) rfl rfl ⟨ct BK216 0, ct BK216 1, ct BK217 0, ct BK217 1⟩ (fun hHeld => ?_); refine with_tabW frac_added_fn38.tab2 frac_added_fn38.bits2 (fun HT_ HW_ => ?_)
  generalize w27.drew = w28 at BK216 BK217 BK218 HB hHeld ⊢
  refine pu_ 0 (some 14) (m_ 9 1) rfl rfl (ao HT_) ?_
  refine pu_ 3 (some 17) (m_ 9 9) rfl rfl (ao HT_) ?_
  refine tk_ 1 (some 15) (m_ 9 11) rfl rfl (tw HT_ HW_) hHeld ?_
  refine tk_ 4 (some 18) (m_ 9 27) rfl rfl (tw HT_ HW_) hHeld ?_
  refine join_ (σ := Nat) 1 (m_ 9 255) (fun s_ => [(16, .agg #[.bool t223, .int .u64 t224, .int .u64 t225]), (19, .agg #[.bool t226, .int .u64 t227, .int .u64 t228]), (20, .agg #[.bool t229, .int .u64 t230, .int .u64 t231]), (8, .pointer (some ⟨s_, 0, none⟩))]) (fun s_ w' => (c_ w' gb216 0 (.int .i64 t219) ∧ c_ w' gb216 1 (.int .i64 t220) ∧ c_ w' gb217 0 (.int .i64 t221) ∧ c_ w' gb217 1 (.int .i64 t222)) ∧ (w'.heap[gb216]? = some (.cells #[.int .i64 t219, .int .i64 t220] 23 (0, 0))) ∧ (w'.heap[gb217]? = some (.cells #[.int .i64 t221, .int .i64 t222] 23 (0, 0))) ∧ (w'.heap[gb218]? = some (.cells #[.int .i64 0, .int .i64 0] 23 (0, 0))) ∧ (w'.heap[s_]? = some (.cells #[.bool false, .int .u64 0, .int .u64 0] 50 (0, 0))) ∧ (w.heap.size ≤ s_) ∧ (w.heap.size ≤ s_) ∧ (gb216 ≠ s_) ∧ (s_ ≠ gb216) ∧ (gb217 ≠ s_) ∧ (s_ ≠ gb217) ∧ (gb218 ≠ s_) ∧ (s_ ≠ gb218) ∧ (Below w.heap.size w w')) ?_ ?_
  rotate_left
  · intro hCont
    refine two_ (i := 2) (j := 7) (Ni := some 16) (Nj := some 8) (m_ 9 31) (m_ 9 155) rfl rfl rfl rfl (two_of HT_.out (by kernel_rfl)) (by decide) (by decide) (fun K hK => ?_) (fun K hK => ?_)
    · skip
      refine gs_ rfl Tryd.func52 (frac_sized.calls _ _ _ _ _ A5.out) ag ?_
      intro w29 hb
      replace BK216 := bb BK216 hb
      replace BK217 := bb BK217 hb
      replace BK218 := bb BK218 hb
      replace HB := bs HB hb
      (try clear hb)
      refine hK.out _ _ ⟨ct BK216 0, ct BK216 1, ct BK217 0, ct BK217 1⟩ (fun hHeld => ?_)
      clear hK K
      refine nr_ (some 16) ?_
      refine two_ (i := 5) (j := 7) (Ni := some 19) (Nj := some 8) (m_ 9 63) (m_ 9 159) rfl rfl rfl rfl (two_of HT_.out (by kernel_rfl)) (by decide) (by decide) (fun K hK => ?_) (fun K hK => ?_)
      · skip
        refine gs_ rfl Tryd.func52 (frac_sized.calls _ _ _ _ _ A6.out) ag ?_
        intro w30 hb
        replace BK216 := bb BK216 hb
        replace BK217 := bb BK217 hb
        replace BK218 := bb BK218 hb
        replace HB := bs HB hb
        (try clear hb)
        refine hK.out _ _ ⟨ct BK216 0, ct BK216 1, ct BK217 0, ct BK217 1⟩ (fun hHeld => ?_)
        clear hK K
        refine nr_ (some 19) ?_
        refine two_ (i := 6) (j := 7) (Ni := some 20) (Nj := some 8) (m_ 9 127) (m_ 9 191) rfl rfl rfl rfl (two_of HT_.out (by kernel_rfl)) (by decide) (by decide) (fun K hK => ?_) (fun K hK => ?_)
        · skip
          refine gs_ rfl Tryd.func57 (frac_signed_times.calls _ _ _ _ _ _ _ _ _ _ A7.out) ag ?_
          intro w31 hb
          replace BK216 := bb BK216 hb
          replace BK217 := bb BK217 hb
          replace BK218 := bb BK218 hb
          replace HB := bs HB hb
          (try clear hb)
          refine hK.out _ _ ⟨ct BK216 0, ct BK216 1, ct BK217 0, ct BK217 1⟩ (fun hHeld => ?_)
          clear hK K
          refine nr_ (some 20) ?_
          refine o1_ 7 (some 8) (m_ 9 255) rfl rfl (oo HT_) (fun K hK => ?_)
          refine box_step ?hg (N := 8) ?hd (cs := #[.bool false, .int .u64 0, .int .u64 0]) (t := 50) ?hr ?_; (case hd => rfl); (case hg => rfl); (case hr => first | (go_simp; done) | (go_simp; rfl))
          intro gb232 hg w32 hbox hb
          have BK232 := Aside0.mk (hbox)
          have GW232 := bz HB hg
          have GE232 := bz HB hg
          have NB216_232 := bl BK216 hg
          have NB232_216 := bg BK216 hg
          have NB217_232 := bl BK217 hg
          have NB232_217 := bg BK217 hg
          have NB218_232 := bl BK218 hg
          have NB232_218 := bg BK218 hg
          replace BK216 := bb BK216 hb
          replace BK217 := bb BK217 hb
          replace BK218 := bb BK218 hb
          replace HB := bs HB hb
          clear hb hg
          refine hK.out _ _ ⟨ct BK216 0, ct BK216 1, ct BK217 0, ct BK217 1⟩ (fun hHeld => ?_)
          clear hK K
          refine nr_ (some 8) ?_
          exact norm_ (by simp only [putAll, Act.put, si, s0, s1]) (hCont (gb232) _ ⟨hHeld, (bx BK216), (bx BK217), (bx BK218), (bx BK232), GW232.out, GE232.out, NB216_232.out, NB232_216.out, NB217_232.out, NB232_217.out, NB218_232.out, NB232_218.out, (bf HB)⟩)
        · skip
          refine box_step ?hg (N := 8) ?hd (cs := #[.bool false, .int .u64 0, .int .u64 0]) (t := 50) ?hr ?_; (case hd => rfl); (case hg => rfl); (case hr => first | (go_simp; done) | (go_simp; rfl))
          intro gb232 hg w31 hbox hb
          have BK232 := Aside0.mk (hbox)
          have GW232 := bz HB hg
          have GE232 := bz HB hg
          have NB216_232 := bl BK216 hg
          have NB232_216 := bg BK216 hg
          have NB217_232 := bl BK217 hg
          have NB232_217 := bg BK217 hg
          have NB218_232 := bl BK218 hg
          have NB232_218 := bg BK218 hg
          replace BK216 := bb BK216 hb
          replace BK217 := bb BK217 hb
          replace BK218 := bb BK218 hb
          replace HB := bs HB hb
          clear hb hg
          refine hK.out _ _ ⟨ct BK216 0, ct BK216 1, ct BK217 0, ct BK217 1⟩ (fun hHeld => ?_)
          clear hK K
          refine nr_ (some 8) ?_
          refine o1_ 6 (some 20) (m_ 9 255) rfl rfl (oo HT_) (fun K hK => ?_)
          refine gs_ rfl Tryd.func57 (frac_signed_times.calls _ _ _ _ _ _ _ _ _ _ A7.out) ag ?_
          intro w32 hb
          replace BK216 := bb BK216 hb
          replace BK217 := bb BK217 hb
          replace BK218 := bb BK218 hb
          replace BK232 := bb BK232 hb
          replace HB := bs HB hb
          (try clear hb)
          refine hK.out _ _ ⟨ct BK216 0, ct BK216 1, ct BK217 0, ct BK217 1⟩ (fun hHeld => ?_)
          clear hK K
          refine nr_ (some 20) ?_
          exact norm_ (by simp only [putAll, Act.put, si, s0, s1]) (hCont (gb232) _ ⟨hHeld, (bx BK216), (bx BK217), (bx BK218), (bx BK232), GW232.out, GE232.out, NB216_232.out, NB232_216.out, NB217_232.out, NB232_217.out, NB218_232.out, NB232_218.out, (bf HB)⟩)
      · skip
        refine box_step ?hg (N := 8) ?hd (cs := #[.bool false, .int .u64 0, .int .u64 0]) (t := 50) ?hr ?_; (case hd => rfl); (case hg => rfl); (case hr => first | (go_simp; done) | (go_simp; rfl))
        intro gb232 hg w30 hbox hb
        have BK232 := Aside0.mk (hbox)
        have GW232 := bz HB hg
        have GE232 := bz HB hg
        have NB216_232 := bl BK216 hg
        have NB232_216 := bg BK216 hg
        have NB217_232 := bl BK217 hg
        have NB232_217 := bg BK217 hg
        have NB218_232 := bl BK218 hg
        have NB232_218 := bg BK218 hg
        replace BK216 := bb BK216 hb
        replace BK217 := bb BK217 hb
        replace BK218 := bb BK218 hb
        replace HB := bs HB hb
        clear hb hg
        refine hK.out _ _ ⟨ct BK216 0, ct BK216 1, ct BK217 0, ct BK217 1⟩ (fun hHeld => ?_)
        clear hK K
        refine nr_ (some 8) ?_
        refine o1_ 5 (some 19) (m_ 9 191) rfl rfl (oo HT_) (fun K hK => ?_)
        refine gs_ rfl Tryd.func52 (frac_sized.calls _ _ _ _ _ A6.out) ag ?_
        intro w31 hb
        replace BK216 := bb BK216 hb
        replace BK217 := bb BK217 hb
        replace BK218 := bb BK218 hb
        replace BK232 := bb BK232 hb
        replace HB := bs HB hb
        (try clear hb)
        refine hK.out _ _ ⟨ct BK216 0, ct BK216 1, ct BK217 0, ct BK217 1⟩ (fun hHeld => ?_)
        clear hK K
        refine nr_ (some 19) ?_
        refine o1_ 6 (some 20) (m_ 9 255) rfl rfl (oo HT_) (fun K hK => ?_)
        refine gs_ rfl Tryd.func57 (frac_signed_times.calls _ _ _ _ _ _ _ _ _ _ A7.out) ag ?_
        intro w32 hb
        replace BK216 := bb BK216 hb
        replace BK217 := bb BK217 hb
        replace BK218 := bb BK218 hb
        replace BK232 := bb BK232 hb
        replace HB := bs HB hb
        (try clear hb)
        refine hK.out _ _ ⟨ct BK216 0, ct BK216 1, ct BK217 0, ct BK217 1⟩ (fun hHeld => ?_)
        clear hK K
        refine nr_ (some 20) ?_
        exact norm_ (by simp only [putAll, Act.put, si, s0, s1]) (hCont (gb232) _ ⟨hHeld, (bx BK216), (bx BK217), (bx BK218), (bx BK232), GW232.out, GE232.out, NB216_232.out, NB232_216.out, NB217_232.out, NB232_217.out, NB218_232.out, NB232_218.out, (bf HB)⟩)
    · skip
      refine box_step ?hg (N := 8) ?hd (cs := #[.bool false, .int .u64 0, .int .u64 0]) (t := 50) ?hr ?_; (case hd => rfl); (case hg => rfl); (case hr => first | (go_simp; done) | (go_simp; rfl))
      intro gb232 hg w29 hbox hb
      have BK232 := Aside0.mk (hbox)
      have GW232 := bz HB hg
      have GE232 := bz HB hg
      have NB216_232 := bl BK216 hg
      have NB232_216 := bg BK216 hg
      have NB217_232 := bl BK217 hg
      have NB232_217 := bg BK217 hg
      have NB218_232 := bl BK218 hg
      have NB232_218 := bg BK218 hg
      replace BK216 := bb BK216 hb
      replace BK217 := bb BK217 hb
      replace BK218 := bb BK218 hb
      replace HB := bs HB hb
      clear hb hg
      refine hK.out _ _ ⟨ct BK216 0, ct BK216 1, ct BK217 0, ct BK217 1⟩ (fun hHeld => ?_)
      clear hK K
      refine nr_ (some 8) ?_
      refine o1_ 2 (some 16) (m_ 9 159) rfl rfl (oo HT_) (fun K hK => ?_)
      refine gs_ rfl Tryd.func52 (frac_sized.calls _ _ _ _ _ A5.out) ag ?_
      intro w30 hb
      replace BK216 := bb BK216 hb
      replace BK217 := bb BK217 hb
      replace BK218 := bb BK218 hb
      replace BK232 := bb BK232 hb
      replace HB := bs HB hb
      (try clear hb)
      refine hK.out _ _ ⟨ct BK216 0, ct BK216 1, ct BK217 0, ct BK217 1⟩ (fun hHeld => ?_)
      clear hK K
      refine nr_ (some 16) ?_
      refine o1_ 5 (some 19) (m_ 9 191) rfl rfl (oo HT_) (fun K hK => ?_)
      refine gs_ rfl Tryd.func52 (frac_sized.calls _ _ _ _ _ A6.out) ag ?_
      intro w31 hb
      replace BK216 := bb BK216 hb
      replace BK217 := bb BK217 hb
      replace BK218 := bb BK218 hb
      replace BK232 := bb BK232 hb
      replace HB := bs HB hb
      (try clear hb)
      refine hK.out _ _ ⟨ct BK216 0, ct BK216 1, ct BK217 0, ct BK217 1⟩ (fun hHeld => ?_)
      clear hK K
      refine nr_ (some 19) ?_
      refine o1_ 6 (some 20) (m_ 9 255) rfl rfl (oo HT_) (fun K hK => ?_)
      refine gs_ rfl Tryd.func57 (frac_signed_times.calls _ _ _ _ _ _ _ _ _ _ A7.out) ag ?_
      intro w32 hb
      replace BK216 := bb BK216 hb
      replace BK217 := bb BK217 hb
      replace BK218 := bb BK218 hb
      replace BK232 := bb BK232 hb
      replace HB := bs HB hb
      (try clear hb)
      refine hK.out _ _ ⟨ct BK216 0, ct BK216 1, ct BK217 0, ct BK217 1⟩ (fun hHeld => ?_)
      clear hK K
      refine nr_ (some 20) ?_
      exact norm_ (by simp only [putAll, Act.put, si, s0, s1]) (hCont (gb232) _ ⟨hHeld, (bx BK216), (bx BK217), (bx BK218), (bx BK232), GW232.out, GE232.out, NB216_232.out, NB232_216.out, NB217_232.out, NB232_217.out, NB218_232.out, NB232_218.out, (bf HB)⟩)
  rintro gb232 w33 ⟨hS_, h0_, h1_, h2_, h3_, h4_, h5_, h6_, h7_, h8_, h9_, h10_, h11_, h12_⟩
  have n0_ : Aside0 (w33.heap[gb216]? = some (.cells #[.int .i64 t219, .int .i64 t220] 23 (0, 0))) := ⟨h0_⟩
  have n1_ : Aside0 (w33.heap[gb217]? = some (.cells #[.int .i64 t221, .int .i64 t222] 23 (0, 0))) := ⟨h1_⟩
  have n2_ : Aside0 (w33.heap[gb218]? = some (.cells #[.int .i64 0, .int .i64 0] 23 (0, 0))) := ⟨h2_⟩
  have n3_ : Aside0 (w33.heap[gb232]? = some (.cells #[.bool false, .int .u64 0, .int .u64 0] 50 (0, 0))) := ⟨h3_⟩
  have n4_ : Aside0 (w.heap.size ≤ gb232) := ⟨h4_⟩
  have n5_ : Aside0 (w.heap.size ≤ gb232) := ⟨h5_⟩
  have n6_ : Aside0 (gb216 ≠ gb232) := ⟨h6_⟩
  have n7_ : Aside0 (gb232 ≠ gb216) := ⟨h7_⟩
  have n8_ : Aside0 (gb217 ≠ gb232) := ⟨h8_⟩
  have n9_ : Aside0 (gb232 ≠ gb217) := ⟨h9_⟩
  have n10_ : Aside0 (gb218 ≠ gb232) := ⟨h10_⟩
  have n11_ : Aside0 (gb232 ≠ gb218) := ⟨h11_⟩
  have n12_ : Aside0 (Below w.heap.size w w33) := ⟨h12_⟩
  clear BK216
  clear BK217
  clear BK218
  clear HB
  clear h0_ h1_ h2_ h3_ h4_ h5_ h6_ h7_ h8_ h9_ h10_ h11_ h12_
  have BK216 := n0_
  have BK217 := n1_
  have BK218 := n2_
  have BK232 := n3_
  have GW232 := n4_
  have GE232 := n5_
  have NB216_232 := n6_
  have NB232_216 := n7_
  have NB217_232 := n8_
  have NB232_217 := n9_
  have NB218_232 := n10_
  have NB232_218 := n11_
  have HB := n12_
  clear n0_ n1_ n2_ n3_ n4_ n5_ n6_ n7_ n8_ n9_ n10_ n11_ n12_
  have hHeld : c_ w33 gb216 0 (.int .i64 t219) ∧ c_ w33 gb216 1 (.int .i64 t220) ∧ c_ w33 gb217 0 (.int .i64 t221) ∧ c_ w33 gb217 1 (.int .i64 t222) := hS_
  refine norm_ (a' := ?_) ?_ ?_
  rotate_left
  · simp only [putAll, Act.put, si, s0, s1]
    rfl
  refine o1_ 8 (none) (m_ 9 511) rfl rfl (oo HT_) (fun K hK => ?_)
  have hs34 : c_ w33 gb232 0 (.bool false) := ct BK232 0
  have hfs34 := blk_frozen BK232.out 0
  have hns34_0 := NB216_232.out
  have hns34_1 := NB217_232.out
  have hns34_2 := NB218_232.out
  have hms34_0 := NB232_216.out
  have hms34_1 := NB232_217.out
  have hms34_2 := NB232_218.out
  have hs35 : c_ w33 gb232 1 (.int .u64 0) := ct BK232 1
  have hfs35 := blk_frozen BK232.out 1
  have hns35_0 := NB216_232.out
  have hns35_1 := NB217_232.out
  have hns35_2 := NB218_232.out
  have hms35_0 := NB232_216.out
  have hms35_1 := NB232_217.out
  have hms35_2 := NB232_218.out
  have hs36 : c_ w33 gb232 2 (.int .u64 0) := ct BK232 2
  have hfs36 := blk_frozen BK232.out 2
  have hns36_0 := NB216_232.out
  have hns36_1 := NB217_232.out
  have hns36_2 := NB218_232.out
  have hms36_0 := NB232_216.out
  have hms36_1 := NB232_217.out
  have hms36_2 := NB232_218.out
  refine skip_ (w1 := ?_) (by rfl) rfl ?_ ?_
  rotate_left
  · go_simp
    rfl
  refine hK.out _ _ ⟨((cell_far (p := ⟨gb232, _, none⟩) NB216_232.out _).trans (((cell_far (p := ⟨gb232, _, none⟩) NB216_232.out _).trans (((cell_far (p := ⟨gb232, _, none⟩) NB216_232.out _).trans (hHeld.1)))))), ((cell_far (p := ⟨gb232, _, none⟩) NB216_232.out _).trans (((cell_far (p := ⟨gb232, _, none⟩) NB216_232.out _).trans (((cell_far (p := ⟨gb232, _, none⟩) NB216_232.out _).trans (hHeld.2.1)))))), ((cell_far (p := ⟨gb232, _, none⟩) NB217_232.out _).trans (((cell_far (p := ⟨gb232, _, none⟩) NB217_232.out _).trans (((cell_far (p := ⟨gb232, _, none⟩) NB217_232.out _).trans (hHeld.2.2.1)))))), ((cell_far (p := ⟨gb232, _, none⟩) NB217_232.out _).trans (((cell_far (p := ⟨gb232, _, none⟩) NB217_232.out _).trans (((cell_far (p := ⟨gb232, _, none⟩) NB217_232.out _).trans (hHeld.2.2.2))))))⟩ (fun hHeld => ?_)
  clear hK K
  refine done_ (done_of HT_.out (by kernel_rfl)) ?_
  try go_wp2
  have n0_ : Aside0 ((((w33.setCell ⟨gb232, 0, none⟩ (.bool t229)).setCell ⟨gb232, 1, none⟩ (.int .u64 t230)).setCell ⟨gb232, 2, none⟩ (.int .u64 t231)).heap[gb216]? = some (.cells #[.int .i64 t219, .int .i64 t220] 23 (0, 0))) := bu_ BK216
  have n1_ : Aside0 ((((w33.setCell ⟨gb232, 0, none⟩ (.bool t229)).setCell ⟨gb232, 1, none⟩ (.int .u64 t230)).setCell ⟨gb232, 2, none⟩ (.int .u64 t231)).heap[gb217]? = some (.cells #[.int .i64 t221, .int .i64 t222] 23 (0, 0))) := bu_ BK217
  have n2_ : Aside0 ((((w33.setCell ⟨gb232, 0, none⟩ (.bool t229)).setCell ⟨gb232, 1, none⟩ (.int .u64 t230)).setCell ⟨gb232, 2, none⟩ (.int .u64 t231)).heap[gb218]? = some (.cells #[.int .i64 0, .int .i64 0] 23 (0, 0))) := bu_ BK218
  have n3_ : Aside0 ((((w33.setCell ⟨gb232, 0, none⟩ (.bool t229)).setCell ⟨gb232, 1, none⟩ (.int .u64 t230)).setCell ⟨gb232, 2, none⟩ (.int .u64 t231)).heap[gb232]? = some (.cells #[.bool t229, .int .u64 t230, .int .u64 t231] 50 (0, 0))) := bq_ BK232
  have n4_ : Aside0 (Below w.heap.size w (((w33.setCell ⟨gb232, 0, none⟩ (.bool t229)).setCell ⟨gb232, 1, none⟩ (.int .u64 t230)).setCell ⟨gb232, 2, none⟩ (.int .u64 t231))) := ⟨bf HB⟩
  (try clear BK216); (try clear BK217); (try clear BK218); (try clear BK232); (try clear HB)
  generalize (((w33.setCell ⟨gb232, 0, none⟩ (.bool t229)).setCell ⟨gb232, 1, none⟩ (.int .u64 t230)).setCell ⟨gb232, 2, none⟩ (.int .u64 t231)) = w37 at n0_ n1_ n2_ n3_ n4_ ⊢
  have BK216 := n0_
  have BK217 := n1_
  have BK218 := n2_
  have BK232 := n3_
  have HB := n4_
  clear n0_ n1_ n2_ n3_ n4_
  replace BK216 := Aside0.mk (blk_drew BK216.out)
  replace BK217 := Aside0.mk (blk_drew BK217.out)
  replace BK218 := Aside0.mk (blk_drew BK218.out)
  replace BK232 := Aside0.mk (blk_drew BK232.out)
  replace HB := Aside0.mk (below_drew1 HB.out)
  refine start_ (n := 11) (S := fun w' => c_ w' gb217 0 (.int .i64 t221) ∧ c_ w' gb217 1 (.int .i64 t222) ∧ c_ w' gb216 0 (.int .i64 t219) ∧ c_ w' gb216 1 (.int .i64 t220)) (ds := []) (m_ 11 0) (by kernel_rfl) rfl rfl ⟨ct BK217 0, ct BK217 1, ct BK216 0, ct BK216 1⟩ (fun hHeld => ?_); refine with_tabW frac_added_fn38.tab3 frac_added_fn38.bits3 (fun HT_ HW_ => ?_)
  generalize w37.drew = w38 at BK216 BK217 BK218 BK232 HB hHeld ⊢
  refine pu_ 0 (some 21) (m_ 11 1) rfl rfl (ao HT_) ?_
  refine pu_ 1 (some 22) (m_ 11 3) rfl rfl (ao HT_) ?_
  refine pu_ 4 (some 25) (m_ 11 19) rfl rfl (ao HT_) ?_
  refine tk_ 2 (some 23) (m_ 11 23) rfl rfl (tw HT_ HW_) hHeld ?_
  refine tk_ 5 (some 26) (m_ 11 55) rfl rfl (tw HT_ HW_) hHeld ?_
  refine join_ (σ := Nat) 1 (m_ 11 1023) (fun s_ => [(24, .agg #[.bool t233, .int .u64 t234, .int .u64 t235]), (27, .agg #[.bool t236, .int .u64 t237, .int .u64 t238]), (28, .agg #[.bool t239, .int .u64 t240, .int .u64 t241]), (29, .agg #[.bool t242, .int .u64 t243, .int .u64 t244]), (9, .pointer (some ⟨s_, 0, none⟩))]) (fun s_ w' => (c_ w' gb217 0 (.int .i64 t221) ∧ c_ w' gb217 1 (.int .i64 t222) ∧ c_ w' gb216 0 (.int .i64 t219) ∧ c_ w' gb216 1 (.int .i64 t220)) ∧ (w'.heap[gb216]? = some (.cells #[.int .i64 t219, .int .i64 t220] 23 (0, 0))) ∧ (w'.heap[gb217]? = some (.cells #[.int .i64 t221, .int .i64 t222] 23 (0, 0))) ∧ (w'.heap[gb218]? = some (.cells #[.int .i64 0, .int .i64 0] 23 (0, 0))) ∧ (w'.heap[gb232]? = some (.cells #[.bool t229, .int .u64 t230, .int .u64 t231] 50 (0, 0))) ∧ (w'.heap[s_]? = some (.cells #[.bool false, .int .u64 0, .int .u64 0] 50 (0, 0))) ∧ (w.heap.size ≤ s_) ∧ (w.heap.size ≤ s_) ∧ (gb216 ≠ s_) ∧ (s_ ≠ gb216) ∧ (gb217 ≠ s_) ∧ (s_ ≠ gb217) ∧ (gb218 ≠ s_) ∧ (s_ ≠ gb218) ∧ (gb232 ≠ s_) ∧ (s_ ≠ gb232) ∧ (Below w.heap.size w w')) ?_ ?_
  rotate_left
  · intro hJ3_6_7_8_9
    refine join_ (σ := Unit) 2 (m_ 11 511) (fun s_ => [(24, .agg #[.bool t233, .int .u64 t234, .int .u64 t235]), (27, .agg #[.bool t236, .int .u64 t237, .int .u64 t238]), (28, .agg #[.bool t239, .int .u64 t240, .int .u64 t241]), (29, .agg #[.bool t242, .int .u64 t243, .int .u64 t244])]) (fun s_ w' => (c_ w' gb217 0 (.int .i64 t221) ∧ c_ w' gb217 1 (.int .i64 t222) ∧ c_ w' gb216 0 (.int .i64 t219) ∧ c_ w' gb216 1 (.int .i64 t220)) ∧ (w'.heap[gb216]? = some (.cells #[.int .i64 t219, .int .i64 t220] 23 (0, 0))) ∧ (w'.heap[gb217]? = some (.cells #[.int .i64 t221, .int .i64 t222] 23 (0, 0))) ∧ (w'.heap[gb218]? = some (.cells #[.int .i64 0, .int .i64 0] 23 (0, 0))) ∧ (w'.heap[gb232]? = some (.cells #[.bool t229, .int .u64 t230, .int .u64 t231] 50 (0, 0))) ∧ (Below w.heap.size w w')) ?_ ?_
    rotate_left
    · intro hJ3_6_7_8
      refine join_ (σ := Nat) 2 (m_ 11 767) (fun s_ => [(24, .agg #[.bool t233, .int .u64 t234, .int .u64 t235]), (27, .agg #[.bool t236, .int .u64 t237, .int .u64 t238]), (28, .agg #[.bool t239, .int .u64 t240, .int .u64 t241]), (9, .pointer (some ⟨s_, 0, none⟩))]) (fun s_ w' => (c_ w' gb217 0 (.int .i64 t221) ∧ c_ w' gb217 1 (.int .i64 t222) ∧ c_ w' gb216 0 (.int .i64 t219) ∧ c_ w' gb216 1 (.int .i64 t220)) ∧ (w'.heap[gb216]? = some (.cells #[.int .i64 t219, .int .i64 t220] 23 (0, 0))) ∧ (w'.heap[gb217]? = some (.cells #[.int .i64 t221, .int .i64 t222] 23 (0, 0))) ∧ (w'.heap[gb218]? = some (.cells #[.int .i64 0, .int .i64 0] 23 (0, 0))) ∧ (w'.heap[gb232]? = some (.cells #[.bool t229, .int .u64 t230, .int .u64 t231] 50 (0, 0))) ∧ (w'.heap[s_]? = some (.cells #[.bool false, .int .u64 0, .int .u64 0] 50 (0, 0))) ∧ (w.heap.size ≤ s_) ∧ (w.heap.size ≤ s_) ∧ (gb216 ≠ s_) ∧ (s_ ≠ gb216) ∧ (gb217 ≠ s_) ∧ (s_ ≠ gb217) ∧ (gb218 ≠ s_) ∧ (s_ ≠ gb218) ∧ (gb232 ≠ s_) ∧ (s_ ≠ gb232) ∧ (Below w.heap.size w w')) ?_ ?_
      rotate_left
      · intro hJ3_6_7_9
        refine join_ (σ := Unit) 3 (m_ 11 255) (fun s_ => [(24, .agg #[.bool t233, .int .u64 t234, .int .u64 t235]), (27, .agg #[.bool t236, .int .u64 t237, .int .u64 t238]), (28, .agg #[.bool t239, .int .u64 t240, .int .u64 t241])]) (fun s_ w' => (c_ w' gb217 0 (.int .i64 t221) ∧ c_ w' gb217 1 (.int .i64 t222) ∧ c_ w' gb216 0 (.int .i64 t219) ∧ c_ w' gb216 1 (.int .i64 t220)) ∧ (w'.heap[gb216]? = some (.cells #[.int .i64 t219, .int .i64 t220] 23 (0, 0))) ∧ (w'.heap[gb217]? = some (.cells #[.int .i64 t221, .int .i64 t222] 23 (0, 0))) ∧ (w'.heap[gb218]? = some (.cells #[.int .i64 0, .int .i64 0] 23 (0, 0))) ∧ (w'.heap[gb232]? = some (.cells #[.bool t229, .int .u64 t230, .int .u64 t231] 50 (0, 0))) ∧ (Below w.heap.size w w')) ?_ ?_
        rotate_left
        · intro hJ3_6_7
          refine join_ (σ := Nat) 3 (m_ 11 639) (fun s_ => [(24, .agg #[.bool t233, .int .u64 t234, .int .u64 t235]), (27, .agg #[.bool t236, .int .u64 t237, .int .u64 t238]), (9, .pointer (some ⟨s_, 0, none⟩))]) (fun s_ w' => (c_ w' gb217 0 (.int .i64 t221) ∧ c_ w' gb217 1 (.int .i64 t222) ∧ c_ w' gb216 0 (.int .i64 t219) ∧ c_ w' gb216 1 (.int .i64 t220)) ∧ (w'.heap[gb216]? = some (.cells #[.int .i64 t219, .int .i64 t220] 23 (0, 0))) ∧ (w'.heap[gb217]? = some (.cells #[.int .i64 t221, .int .i64 t222] 23 (0, 0))) ∧ (w'.heap[gb218]? = some (.cells #[.int .i64 0, .int .i64 0] 23 (0, 0))) ∧ (w'.heap[gb232]? = some (.cells #[.bool t229, .int .u64 t230, .int .u64 t231] 50 (0, 0))) ∧ (w'.heap[s_]? = some (.cells #[.bool false, .int .u64 0, .int .u64 0] 50 (0, 0))) ∧ (w.heap.size ≤ s_) ∧ (w.heap.size ≤ s_) ∧ (gb216 ≠ s_) ∧ (s_ ≠ gb216) ∧ (gb217 ≠ s_) ∧ (s_ ≠ gb217) ∧ (gb218 ≠ s_) ∧ (s_ ≠ gb218) ∧ (gb232 ≠ s_) ∧ (s_ ≠ gb232) ∧ (Below w.heap.size w w')) ?_ ?_
          rotate_left
          · intro hJ3_6_9
            refine join_ (σ := Unit) 4 (m_ 11 127) (fun s_ => [(24, .agg #[.bool t233, .int .u64 t234, .int .u64 t235]), (27, .agg #[.bool t236, .int .u64 t237, .int .u64 t238])]) (fun s_ w' => (c_ w' gb217 0 (.int .i64 t221) ∧ c_ w' gb217 1 (.int .i64 t222) ∧ c_ w' gb216 0 (.int .i64 t219) ∧ c_ w' gb216 1 (.int .i64 t220)) ∧ (w'.heap[gb216]? = some (.cells #[.int .i64 t219, .int .i64 t220] 23 (0, 0))) ∧ (w'.heap[gb217]? = some (.cells #[.int .i64 t221, .int .i64 t222] 23 (0, 0))) ∧ (w'.heap[gb218]? = some (.cells #[.int .i64 0, .int .i64 0] 23 (0, 0))) ∧ (w'.heap[gb232]? = some (.cells #[.bool t229, .int .u64 t230, .int .u64 t231] 50 (0, 0))) ∧ (Below w.heap.size w w')) ?_ ?_
            rotate_left
            · intro hJ3_6
              refine join_ (σ := Nat) 4 (m_ 11 575) (fun s_ => [(24, .agg #[.bool t233, .int .u64 t234, .int .u64 t235]), (9, .pointer (some ⟨s_, 0, none⟩))]) (fun s_ w' => (c_ w' gb217 0 (.int .i64 t221) ∧ c_ w' gb217 1 (.int .i64 t222) ∧ c_ w' gb216 0 (.int .i64 t219) ∧ c_ w' gb216 1 (.int .i64 t220)) ∧ (w'.heap[gb216]? = some (.cells #[.int .i64 t219, .int .i64 t220] 23 (0, 0))) ∧ (w'.heap[gb217]? = some (.cells #[.int .i64 t221, .int .i64 t222] 23 (0, 0))) ∧ (w'.heap[gb218]? = some (.cells #[.int .i64 0, .int .i64 0] 23 (0, 0))) ∧ (w'.heap[gb232]? = some (.cells #[.bool t229, .int .u64 t230, .int .u64 t231] 50 (0, 0))) ∧ (w'.heap[s_]? = some (.cells #[.bool false, .int .u64 0, .int .u64 0] 50 (0, 0))) ∧ (w.heap.size ≤ s_) ∧ (w.heap.size ≤ s_) ∧ (gb216 ≠ s_) ∧ (s_ ≠ gb216) ∧ (gb217 ≠ s_) ∧ (s_ ≠ gb217) ∧ (gb218 ≠ s_) ∧ (s_ ≠ gb218) ∧ (gb232 ≠ s_) ∧ (s_ ≠ gb232) ∧ (Below w.heap.size w w')) ?_ ?_
              rotate_left
              · intro hJ3_9
                refine join_ (σ := Unit) 5 (m_ 11 63) (fun s_ => [(24, .agg #[.bool t233, .int .u64 t234, .int .u64 t235])]) (fun s_ w' => (c_ w' gb217 0 (.int .i64 t221) ∧ c_ w' gb217 1 (.int .i64 t222) ∧ c_ w' gb216 0 (.int .i64 t219) ∧ c_ w' gb216 1 (.int .i64 t220)) ∧ (w'.heap[gb216]? = some (.cells #[.int .i64 t219, .int .i64 t220] 23 (0, 0))) ∧ (w'.heap[gb217]? = some (.cells #[.int .i64 t221, .int .i64 t222] 23 (0, 0))) ∧ (w'.heap[gb218]? = some (.cells #[.int .i64 0, .int .i64 0] 23 (0, 0))) ∧ (w'.heap[gb232]? = some (.cells #[.bool t229, .int .u64 t230, .int .u64 t231] 50 (0, 0))) ∧ (Below w.heap.size w w')) ?_ ?_
                rotate_left
                · intro hJ3
                  refine join_ (σ := Nat) 5 (m_ 11 567) (fun s_ => [(9, .pointer (some ⟨s_, 0, none⟩))]) (fun s_ w' => (c_ w' gb217 0 (.int .i64 t221) ∧ c_ w' gb217 1 (.int .i64 t222) ∧ c_ w' gb216 0 (.int .i64 t219) ∧ c_ w' gb216 1 (.int .i64 t220)) ∧ (w'.heap[gb216]? = some (.cells #[.int .i64 t219, .int .i64 t220] 23 (0, 0))) ∧ (w'.heap[gb217]? = some (.cells #[.int .i64 t221, .int .i64 t222] 23 (0, 0))) ∧ (w'.heap[gb218]? = some (.cells #[.int .i64 0, .int .i64 0] 23 (0, 0))) ∧ (w'.heap[gb232]? = some (.cells #[.bool t229, .int .u64 t230, .int .u64 t231] 50 (0, 0))) ∧ (w'.heap[s_]? = some (.cells #[.bool false, .int .u64 0, .int .u64 0] 50 (0, 0))) ∧ (w.heap.size ≤ s_) ∧ (w.heap.size ≤ s_) ∧ (gb216 ≠ s_) ∧ (s_ ≠ gb216) ∧ (gb217 ≠ s_) ∧ (s_ ≠ gb217) ∧ (gb218 ≠ s_) ∧ (s_ ≠ gb218) ∧ (gb232 ≠ s_) ∧ (s_ ≠ gb232) ∧ (Below w.heap.size w w')) ?_ ?_
                  rotate_left
                  · intro hJ9
                    refine two_ (i := 3) (j := 9) (Ni := some 24) (Nj := some 9) (m_ 11 63) (m_ 11 567) rfl rfl rfl rfl (two_of HT_.out (by kernel_rfl)) (by decide) (by decide) (fun K hK => ?_) (fun K hK => ?_)
                    · skip
                      refine gs_ rfl Tryd.func52 (frac_sized.calls _ _ _ _ _ A8.out) ag ?_
                      intro w39 hb
                      replace BK216 := bb BK216 hb
                      replace BK217 := bb BK217 hb
                      replace BK218 := bb BK218 hb
                      replace BK232 := bb BK232 hb
                      replace HB := bs HB hb
                      (try clear hb)
                      refine hK.out _ _ ⟨ct BK217 0, ct BK217 1, ct BK216 0, ct BK216 1⟩ (fun hHeld => ?_)
                      clear hK K
                      refine nr_ (some 24) ?_
                      exact norm_ (by first | (simp only [putAll, Act.put, si, s0, s1]; done) | (simp only [putAll, Act.put, si, s0, s1]; rfl)) (hJ3 () _ ⟨hHeld, (bx BK216), (bx BK217), (bx BK218), (bx BK232), (bf HB)⟩)
                    · skip
                      refine box_step ?hg (N := 9) ?hd (cs := #[.bool false, .int .u64 0, .int .u64 0]) (t := 50) ?hr ?_; (case hd => rfl); (case hg => rfl); (case hr => first | (go_simp; done) | (go_simp; rfl))
                      intro gb245 hg w39 hbox hb
                      have BK245 := Aside0.mk (hbox)
                      have GW245 := bz HB hg
                      have GE245 := bz HB hg
                      have NB216_245 := bl BK216 hg
                      have NB245_216 := bg BK216 hg
                      have NB217_245 := bl BK217 hg
                      have NB245_217 := bg BK217 hg
                      have NB218_245 := bl BK218 hg
                      have NB245_218 := bg BK218 hg
                      have NB232_245 := bl BK232 hg
                      have NB245_232 := bg BK232 hg
                      replace BK216 := bb BK216 hb
                      replace BK217 := bb BK217 hb
                      replace BK218 := bb BK218 hb
                      replace BK232 := bb BK232 hb
                      replace HB := bs HB hb
                      clear hb hg
                      refine hK.out _ _ ⟨ct BK217 0, ct BK217 1, ct BK216 0, ct BK216 1⟩ (fun hHeld => ?_)
                      clear hK K
                      refine nr_ (some 9) ?_
                      exact norm_ (by first | (simp only [putAll, Act.put, si, s0, s1]; done) | (simp only [putAll, Act.put, si, s0, s1]; rfl)) (hJ9 (gb245) _ ⟨hHeld, (bx BK216), (bx BK217), (bx BK218), (bx BK232), (bx BK245), GW245.out, GE245.out, NB216_245.out, NB245_216.out, NB217_245.out, NB245_217.out, NB218_245.out, NB245_218.out, NB232_245.out, NB245_232.out, (bf HB)⟩)
                  · skip
                    rintro gb245 w40 ⟨hS_, h0_, h1_, h2_, h3_, h4_, h5_, h6_, h7_, h8_, h9_, h10_, h11_, h12_, h13_, h14_, h15_⟩
                    have n0_ : Aside0 (w40.heap[gb216]? = some (.cells #[.int .i64 t219, .int .i64 t220] 23 (0, 0))) := ⟨h0_⟩
                    have n1_ : Aside0 (w40.heap[gb217]? = some (.cells #[.int .i64 t221, .int .i64 t222] 23 (0, 0))) := ⟨h1_⟩
                    have n2_ : Aside0 (w40.heap[gb218]? = some (.cells #[.int .i64 0, .int .i64 0] 23 (0, 0))) := ⟨h2_⟩
                    have n3_ : Aside0 (w40.heap[gb232]? = some (.cells #[.bool t229, .int .u64 t230, .int .u64 t231] 50 (0, 0))) := ⟨h3_⟩
                    have n4_ : Aside0 (w40.heap[gb245]? = some (.cells #[.bool false, .int .u64 0, .int .u64 0] 50 (0, 0))) := ⟨h4_⟩
                    have n5_ : Aside0 (w.heap.size ≤ gb245) := ⟨h5_⟩
                    have n6_ : Aside0 (w.heap.size ≤ gb245) := ⟨h6_⟩
                    have n7_ : Aside0 (gb216 ≠ gb245) := ⟨h7_⟩
                    have n8_ : Aside0 (gb245 ≠ gb216) := ⟨h8_⟩
                    have n9_ : Aside0 (gb217 ≠ gb245) := ⟨h9_⟩
                    have n10_ : Aside0 (gb245 ≠ gb217) := ⟨h10_⟩
                    have n11_ : Aside0 (gb218 ≠ gb245) := ⟨h11_⟩
                    have n12_ : Aside0 (gb245 ≠ gb218) := ⟨h12_⟩
                    have n13_ : Aside0 (gb232 ≠ gb245) := ⟨h13_⟩
                    have n14_ : Aside0 (gb245 ≠ gb232) := ⟨h14_⟩
                    have n15_ : Aside0 (Below w.heap.size w w40) := ⟨h15_⟩
                    clear BK216
                    clear BK217
                    clear BK218
                    clear BK232
                    clear HB
                    clear h0_ h1_ h2_ h3_ h4_ h5_ h6_ h7_ h8_ h9_ h10_ h11_ h12_ h13_ h14_ h15_
                    have BK216 := n0_
                    have BK217 := n1_
                    have BK218 := n2_
                    have BK232 := n3_
                    have BK245 := n4_
                    have GW245 := n5_
                    have GE245 := n6_
                    have NB216_245 := n7_
                    have NB245_216 := n8_
                    have NB217_245 := n9_
                    have NB245_217 := n10_
                    have NB218_245 := n11_
                    have NB245_218 := n12_
                    have NB232_245 := n13_
                    have NB245_232 := n14_
                    have HB := n15_
                    clear n0_ n1_ n2_ n3_ n4_ n5_ n6_ n7_ n8_ n9_ n10_ n11_ n12_ n13_ n14_ n15_
                    have hHeld : c_ w40 gb217 0 (.int .i64 t221) ∧ c_ w40 gb217 1 (.int .i64 t222) ∧ c_ w40 gb216 0 (.int .i64 t219) ∧ c_ w40 gb216 1 (.int .i64 t220) := hS_
                    refine norm_ (a' := ?_) ?_ ?_
                    rotate_left
                    · simp only [putAll, Act.put, si, s0, s1]
                      rfl
                    refine o1_ 3 (some 24) (m_ 11 575) rfl rfl (oo HT_) (fun K hK => ?_)
                    refine gs_ rfl Tryd.func52 (frac_sized.calls _ _ _ _ _ A8.out) ag ?_
                    intro w41 hb
                    replace BK216 := bb BK216 hb
                    replace BK217 := bb BK217 hb
                    replace BK218 := bb BK218 hb
                    replace BK232 := bb BK232 hb
                    replace BK245 := bb BK245 hb
                    replace HB := bs HB hb
                    (try clear hb)
                    refine hK.out _ _ ⟨ct BK217 0, ct BK217 1, ct BK216 0, ct BK216 1⟩ (fun hHeld => ?_)
                    clear hK K
                    refine nr_ (some 24) ?_
                    exact norm_ (by first | (simp only [putAll, Act.put, si, s0, s1]; done) | (simp only [putAll, Act.put, si, s0, s1]; rfl)) (hJ3_9 (gb245) _ ⟨hHeld, (bx BK216), (bx BK217), (bx BK218), (bx BK232), (bx BK245), GW245.out, GE245.out, NB216_245.out, NB245_216.out, NB217_245.out, NB245_217.out, NB218_245.out, NB245_218.out, NB232_245.out, NB245_232.out, (bf HB)⟩)
                · skip
                  rintro _ w40 ⟨hS_, h0_, h1_, h2_, h3_, h4_⟩
                  have n0_ : Aside0 (w40.heap[gb216]? = some (.cells #[.int .i64 t219, .int .i64 t220] 23 (0, 0))) := ⟨h0_⟩
                  have n1_ : Aside0 (w40.heap[gb217]? = some (.cells #[.int .i64 t221, .int .i64 t222] 23 (0, 0))) := ⟨h1_⟩
                  have n2_ : Aside0 (w40.heap[gb218]? = some (.cells #[.int .i64 0, .int .i64 0] 23 (0, 0))) := ⟨h2_⟩
                  have n3_ : Aside0 (w40.heap[gb232]? = some (.cells #[.bool t229, .int .u64 t230, .int .u64 t231] 50 (0, 0))) := ⟨h3_⟩
                  have n4_ : Aside0 (Below w.heap.size w w40) := ⟨h4_⟩
                  clear BK216
                  clear BK217
                  clear BK218
                  clear BK232
                  clear HB
                  clear h0_ h1_ h2_ h3_ h4_
                  have BK216 := n0_
                  have BK217 := n1_
                  have BK218 := n2_
                  have BK232 := n3_
                  have HB := n4_
                  clear n0_ n1_ n2_ n3_ n4_
                  have hHeld : c_ w40 gb217 0 (.int .i64 t221) ∧ c_ w40 gb217 1 (.int .i64 t222) ∧ c_ w40 gb216 0 (.int .i64 t219) ∧ c_ w40 gb216 1 (.int .i64 t220) := hS_
                  refine norm_ (a' := ?_) ?_ ?_
                  rotate_left
                  · simp only [putAll, Act.put, si, s0, s1]
                    rfl
                  refine two_ (i := 6) (j := 9) (Ni := some 27) (Nj := some 9) (m_ 11 127) (m_ 11 575) rfl rfl rfl rfl (two_of HT_.out (by kernel_rfl)) (by decide) (by decide) (fun K hK => ?_) (fun K hK => ?_)
                  · skip
                    refine gs_ rfl Tryd.func52 (frac_sized.calls _ _ _ _ _ A9.out) ag ?_
                    intro w41 hb
                    replace BK216 := bb BK216 hb
                    replace BK217 := bb BK217 hb
                    replace BK218 := bb BK218 hb
                    replace BK232 := bb BK232 hb
                    replace HB := bs HB hb
                    (try clear hb)
                    refine hK.out _ _ ⟨ct BK217 0, ct BK217 1, ct BK216 0, ct BK216 1⟩ (fun hHeld => ?_)
                    clear hK K
                    refine nr_ (some 27) ?_
                    exact norm_ (by first | (simp only [putAll, Act.put, si, s0, s1]; done) | (simp only [putAll, Act.put, si, s0, s1]; rfl)) (hJ3_6 () _ ⟨hHeld, (bx BK216), (bx BK217), (bx BK218), (bx BK232), (bf HB)⟩)
                  · skip
                    refine box_step ?hg (N := 9) ?hd (cs := #[.bool false, .int .u64 0, .int .u64 0]) (t := 50) ?hr ?_; (case hd => rfl); (case hg => rfl); (case hr => first | (go_simp; done) | (go_simp; rfl))
                    intro gb245 hg w41 hbox hb
                    have BK245 := Aside0.mk (hbox)
                    have GW245 := bz HB hg
                    have GE245 := bz HB hg
                    have NB216_245 := bl BK216 hg
                    have NB245_216 := bg BK216 hg
                    have NB217_245 := bl BK217 hg
                    have NB245_217 := bg BK217 hg
                    have NB218_245 := bl BK218 hg
                    have NB245_218 := bg BK218 hg
                    have NB232_245 := bl BK232 hg
                    have NB245_232 := bg BK232 hg
                    replace BK216 := bb BK216 hb
                    replace BK217 := bb BK217 hb
                    replace BK218 := bb BK218 hb
                    replace BK232 := bb BK232 hb
                    replace HB := bs HB hb
                    clear hb hg
                    refine hK.out _ _ ⟨ct BK217 0, ct BK217 1, ct BK216 0, ct BK216 1⟩ (fun hHeld => ?_)
                    clear hK K
                    refine nr_ (some 9) ?_
                    exact norm_ (by first | (simp only [putAll, Act.put, si, s0, s1]; done) | (simp only [putAll, Act.put, si, s0, s1]; rfl)) (hJ3_9 (gb245) _ ⟨hHeld, (bx BK216), (bx BK217), (bx BK218), (bx BK232), (bx BK245), GW245.out, GE245.out, NB216_245.out, NB245_216.out, NB217_245.out, NB245_217.out, NB218_245.out, NB245_218.out, NB232_245.out, NB245_232.out, (bf HB)⟩)
              · skip
                rintro gb245 w41 ⟨hS_, h0_, h1_, h2_, h3_, h4_, h5_, h6_, h7_, h8_, h9_, h10_, h11_, h12_, h13_, h14_, h15_⟩
                have n0_ : Aside0 (w41.heap[gb216]? = some (.cells #[.int .i64 t219, .int .i64 t220] 23 (0, 0))) := ⟨h0_⟩
                have n1_ : Aside0 (w41.heap[gb217]? = some (.cells #[.int .i64 t221, .int .i64 t222] 23 (0, 0))) := ⟨h1_⟩
                have n2_ : Aside0 (w41.heap[gb218]? = some (.cells #[.int .i64 0, .int .i64 0] 23 (0, 0))) := ⟨h2_⟩
                have n3_ : Aside0 (w41.heap[gb232]? = some (.cells #[.bool t229, .int .u64 t230, .int .u64 t231] 50 (0, 0))) := ⟨h3_⟩
                have n4_ : Aside0 (w41.heap[gb245]? = some (.cells #[.bool false, .int .u64 0, .int .u64 0] 50 (0, 0))) := ⟨h4_⟩
                have n5_ : Aside0 (w.heap.size ≤ gb245) := ⟨h5_⟩
                have n6_ : Aside0 (w.heap.size ≤ gb245) := ⟨h6_⟩
                have n7_ : Aside0 (gb216 ≠ gb245) := ⟨h7_⟩
                have n8_ : Aside0 (gb245 ≠ gb216) := ⟨h8_⟩
                have n9_ : Aside0 (gb217 ≠ gb245) := ⟨h9_⟩
                have n10_ : Aside0 (gb245 ≠ gb217) := ⟨h10_⟩
                have n11_ : Aside0 (gb218 ≠ gb245) := ⟨h11_⟩
                have n12_ : Aside0 (gb245 ≠ gb218) := ⟨h12_⟩
                have n13_ : Aside0 (gb232 ≠ gb245) := ⟨h13_⟩
                have n14_ : Aside0 (gb245 ≠ gb232) := ⟨h14_⟩
                have n15_ : Aside0 (Below w.heap.size w w41) := ⟨h15_⟩
                clear BK216
                clear BK217
                clear BK218
                clear BK232
                clear HB
                clear h0_ h1_ h2_ h3_ h4_ h5_ h6_ h7_ h8_ h9_ h10_ h11_ h12_ h13_ h14_ h15_
                have BK216 := n0_
                have BK217 := n1_
                have BK218 := n2_
                have BK232 := n3_
                have BK245 := n4_
                have GW245 := n5_
                have GE245 := n6_
                have NB216_245 := n7_
                have NB245_216 := n8_
                have NB217_245 := n9_
                have NB245_217 := n10_
                have NB218_245 := n11_
                have NB245_218 := n12_
                have NB232_245 := n13_
                have NB245_232 := n14_
                have HB := n15_
                clear n0_ n1_ n2_ n3_ n4_ n5_ n6_ n7_ n8_ n9_ n10_ n11_ n12_ n13_ n14_ n15_
                have hHeld : c_ w41 gb217 0 (.int .i64 t221) ∧ c_ w41 gb217 1 (.int .i64 t222) ∧ c_ w41 gb216 0 (.int .i64 t219) ∧ c_ w41 gb216 1 (.int .i64 t220) := hS_
                refine norm_ (a' := ?_) ?_ ?_
                rotate_left
                · simp only [putAll, Act.put, si, s0, s1]
                  rfl
                refine o1_ 6 (some 27) (m_ 11 639) rfl rfl (oo HT_) (fun K hK => ?_)
                refine gs_ rfl Tryd.func52 (frac_sized.calls _ _ _ _ _ A9.out) ag ?_
                intro w42 hb
                replace BK216 := bb BK216 hb
                replace BK217 := bb BK217 hb
                replace BK218 := bb BK218 hb
                replace BK232 := bb BK232 hb
                replace BK245 := bb BK245 hb
                replace HB := bs HB hb
                (try clear hb)
                refine hK.out _ _ ⟨ct BK217 0, ct BK217 1, ct BK216 0, ct BK216 1⟩ (fun hHeld => ?_)
                clear hK K
                refine nr_ (some 27) ?_
                exact norm_ (by first | (simp only [putAll, Act.put, si, s0, s1]; done) | (simp only [putAll, Act.put, si, s0, s1]; rfl)) (hJ3_6_9 (gb245) _ ⟨hHeld, (bx BK216), (bx BK217), (bx BK218), (bx BK232), (bx BK245), GW245.out, GE245.out, NB216_245.out, NB245_216.out, NB217_245.out, NB245_217.out, NB218_245.out, NB245_218.out, NB232_245.out, NB245_232.out, (bf HB)⟩)
            · skip
              rintro _ w41 ⟨hS_, h0_, h1_, h2_, h3_, h4_⟩
              have n0_ : Aside0 (w41.heap[gb216]? = some (.cells #[.int .i64 t219, .int .i64 t220] 23 (0, 0))) := ⟨h0_⟩
              have n1_ : Aside0 (w41.heap[gb217]? = some (.cells #[.int .i64 t221, .int .i64 t222] 23 (0, 0))) := ⟨h1_⟩
              have n2_ : Aside0 (w41.heap[gb218]? = some (.cells #[.int .i64 0, .int .i64 0] 23 (0, 0))) := ⟨h2_⟩
              have n3_ : Aside0 (w41.heap[gb232]? = some (.cells #[.bool t229, .int .u64 t230, .int .u64 t231] 50 (0, 0))) := ⟨h3_⟩
              have n4_ : Aside0 (Below w.heap.size w w41) := ⟨h4_⟩
              clear BK216
              clear BK217
              clear BK218
              clear BK232
              clear HB
              clear h0_ h1_ h2_ h3_ h4_
              have BK216 := n0_
              have BK217 := n1_
              have BK218 := n2_
              have BK232 := n3_
              have HB := n4_
              clear n0_ n1_ n2_ n3_ n4_
              have hHeld : c_ w41 gb217 0 (.int .i64 t221) ∧ c_ w41 gb217 1 (.int .i64 t222) ∧ c_ w41 gb216 0 (.int .i64 t219) ∧ c_ w41 gb216 1 (.int .i64 t220) := hS_
              refine norm_ (a' := ?_) ?_ ?_
              rotate_left
              · simp only [putAll, Act.put, si, s0, s1]
                rfl
              refine two_ (i := 7) (j := 9) (Ni := some 28) (Nj := some 9) (m_ 11 255) (m_ 11 639) rfl rfl rfl rfl (two_of HT_.out (by kernel_rfl)) (by decide) (by decide) (fun K hK => ?_) (fun K hK => ?_)
              · skip
                refine gs_ rfl Tryd.func57 (frac_signed_times.calls _ _ _ _ _ _ _ _ _ _ A10.out) ag ?_
                intro w42 hb
                replace BK216 := bb BK216 hb
                replace BK217 := bb BK217 hb
                replace BK218 := bb BK218 hb
                replace BK232 := bb BK232 hb
                replace HB := bs HB hb
                (try clear hb)
                refine hK.out _ _ ⟨ct BK217 0, ct BK217 1, ct BK216 0, ct BK216 1⟩ (fun hHeld => ?_)
                clear hK K
                refine nr_ (some 28) ?_
                exact norm_ (by first | (simp only [putAll, Act.put, si, s0, s1]; done) | (simp only [putAll, Act.put, si, s0, s1]; rfl)) (hJ3_6_7 () _ ⟨hHeld, (bx BK216), (bx BK217), (bx BK218), (bx BK232), (bf HB)⟩)
              · skip
                refine box_step ?hg (N := 9) ?hd (cs := #[.bool false, .int .u64 0, .int .u64 0]) (t := 50) ?hr ?_; (case hd => rfl); (case hg => rfl); (case hr => first | (go_simp; done) | (go_simp; rfl))
                intro gb245 hg w42 hbox hb
                have BK245 := Aside0.mk (hbox)
                have GW245 := bz HB hg
                have GE245 := bz HB hg
                have NB216_245 := bl BK216 hg
                have NB245_216 := bg BK216 hg
                have NB217_245 := bl BK217 hg
                have NB245_217 := bg BK217 hg
                have NB218_245 := bl BK218 hg
                have NB245_218 := bg BK218 hg
                have NB232_245 := bl BK232 hg
                have NB245_232 := bg BK232 hg
                replace BK216 := bb BK216 hb
                replace BK217 := bb BK217 hb
                replace BK218 := bb BK218 hb
                replace BK232 := bb BK232 hb
                replace HB := bs HB hb
                clear hb hg
                refine hK.out _ _ ⟨ct BK217 0, ct BK217 1, ct BK216 0, ct BK216 1⟩ (fun hHeld => ?_)
                clear hK K
                refine nr_ (some 9) ?_
                exact norm_ (by first | (simp only [putAll, Act.put, si, s0, s1]; done) | (simp only [putAll, Act.put, si, s0, s1]; rfl)) (hJ3_6_9 (gb245) _ ⟨hHeld, (bx BK216), (bx BK217), (bx BK218), (bx BK232), (bx BK245), GW245.out, GE245.out, NB216_245.out, NB245_216.out, NB217_245.out, NB245_217.out, NB218_245.out, NB245_218.out, NB232_245.out, NB245_232.out, (bf HB)⟩)
          · skip
            rintro gb245 w42 ⟨hS_, h0_, h1_, h2_, h3_, h4_, h5_, h6_, h7_, h8_, h9_, h10_, h11_, h12_, h13_, h14_, h15_⟩
            have n0_ : Aside0 (w42.heap[gb216]? = some (.cells #[.int .i64 t219, .int .i64 t220] 23 (0, 0))) := ⟨h0_⟩
            have n1_ : Aside0 (w42.heap[gb217]? = some (.cells #[.int .i64 t221, .int .i64 t222] 23 (0, 0))) := ⟨h1_⟩
            have n2_ : Aside0 (w42.heap[gb218]? = some (.cells #[.int .i64 0, .int .i64 0] 23 (0, 0))) := ⟨h2_⟩
            have n3_ : Aside0 (w42.heap[gb232]? = some (.cells #[.bool t229, .int .u64 t230, .int .u64 t231] 50 (0, 0))) := ⟨h3_⟩
            have n4_ : Aside0 (w42.heap[gb245]? = some (.cells #[.bool false, .int .u64 0, .int .u64 0] 50 (0, 0))) := ⟨h4_⟩
            have n5_ : Aside0 (w.heap.size ≤ gb245) := ⟨h5_⟩
            have n6_ : Aside0 (w.heap.size ≤ gb245) := ⟨h6_⟩
            have n7_ : Aside0 (gb216 ≠ gb245) := ⟨h7_⟩
            have n8_ : Aside0 (gb245 ≠ gb216) := ⟨h8_⟩
            have n9_ : Aside0 (gb217 ≠ gb245) := ⟨h9_⟩
            have n10_ : Aside0 (gb245 ≠ gb217) := ⟨h10_⟩
            have n11_ : Aside0 (gb218 ≠ gb245) := ⟨h11_⟩
            have n12_ : Aside0 (gb245 ≠ gb218) := ⟨h12_⟩
            have n13_ : Aside0 (gb232 ≠ gb245) := ⟨h13_⟩
            have n14_ : Aside0 (gb245 ≠ gb232) := ⟨h14_⟩
            have n15_ : Aside0 (Below w.heap.size w w42) := ⟨h15_⟩
            clear BK216
            clear BK217
            clear BK218
            clear BK232
            clear HB
            clear h0_ h1_ h2_ h3_ h4_ h5_ h6_ h7_ h8_ h9_ h10_ h11_ h12_ h13_ h14_ h15_
            have BK216 := n0_
            have BK217 := n1_
            have BK218 := n2_
            have BK232 := n3_
            have BK245 := n4_
            have GW245 := n5_
            have GE245 := n6_
            have NB216_245 := n7_
            have NB245_216 := n8_
            have NB217_245 := n9_
            have NB245_217 := n10_
            have NB218_245 := n11_
            have NB245_218 := n12_
            have NB232_245 := n13_
            have NB245_232 := n14_
            have HB := n15_
            clear n0_ n1_ n2_ n3_ n4_ n5_ n6_ n7_ n8_ n9_ n10_ n11_ n12_ n13_ n14_ n15_
            have hHeld : c_ w42 gb217 0 (.int .i64 t221) ∧ c_ w42 gb217 1 (.int .i64 t222) ∧ c_ w42 gb216 0 (.int .i64 t219) ∧ c_ w42 gb216 1 (.int .i64 t220) := hS_
            refine norm_ (a' := ?_) ?_ ?_
            rotate_left
            · simp only [putAll, Act.put, si, s0, s1]
              rfl
            refine o1_ 7 (some 28) (m_ 11 767) rfl rfl (oo HT_) (fun K hK => ?_)
            refine gs_ rfl Tryd.func57 (frac_signed_times.calls _ _ _ _ _ _ _ _ _ _ A10.out) ag ?_
            intro w43 hb
            replace BK216 := bb BK216 hb
            replace BK217 := bb BK217 hb
            replace BK218 := bb BK218 hb
            replace BK232 := bb BK232 hb
            replace BK245 := bb BK245 hb
            replace HB := bs HB hb
            (try clear hb)
            refine hK.out _ _ ⟨ct BK217 0, ct BK217 1, ct BK216 0, ct BK216 1⟩ (fun hHeld => ?_)
            clear hK K
            refine nr_ (some 28) ?_
            exact norm_ (by first | (simp only [putAll, Act.put, si, s0, s1]; done) | (simp only [putAll, Act.put, si, s0, s1]; rfl)) (hJ3_6_7_9 (gb245) _ ⟨hHeld, (bx BK216), (bx BK217), (bx BK218), (bx BK232), (bx BK245), GW245.out, GE245.out, NB216_245.out, NB245_216.out, NB217_245.out, NB245_217.out, NB218_245.out, NB245_218.out, NB232_245.out, NB245_232.out, (bf HB)⟩)
        · skip
          rintro _ w42 ⟨hS_, h0_, h1_, h2_, h3_, h4_⟩
          have n0_ : Aside0 (w42.heap[gb216]? = some (.cells #[.int .i64 t219, .int .i64 t220] 23 (0, 0))) := ⟨h0_⟩
          have n1_ : Aside0 (w42.heap[gb217]? = some (.cells #[.int .i64 t221, .int .i64 t222] 23 (0, 0))) := ⟨h1_⟩
          have n2_ : Aside0 (w42.heap[gb218]? = some (.cells #[.int .i64 0, .int .i64 0] 23 (0, 0))) := ⟨h2_⟩
          have n3_ : Aside0 (w42.heap[gb232]? = some (.cells #[.bool t229, .int .u64 t230, .int .u64 t231] 50 (0, 0))) := ⟨h3_⟩
          have n4_ : Aside0 (Below w.heap.size w w42) := ⟨h4_⟩
          clear BK216
          clear BK217
          clear BK218
          clear BK232
          clear HB
          clear h0_ h1_ h2_ h3_ h4_
          have BK216 := n0_
          have BK217 := n1_
          have BK218 := n2_
          have BK232 := n3_
          have HB := n4_
          clear n0_ n1_ n2_ n3_ n4_
          have hHeld : c_ w42 gb217 0 (.int .i64 t221) ∧ c_ w42 gb217 1 (.int .i64 t222) ∧ c_ w42 gb216 0 (.int .i64 t219) ∧ c_ w42 gb216 1 (.int .i64 t220) := hS_
          refine norm_ (a' := ?_) ?_ ?_
          rotate_left
          · simp only [putAll, Act.put, si, s0, s1]
            rfl
          refine two_ (i := 8) (j := 9) (Ni := some 29) (Nj := some 9) (m_ 11 511) (m_ 11 767) rfl rfl rfl rfl (two_of HT_.out (by kernel_rfl)) (by decide) (by decide) (fun K hK => ?_) (fun K hK => ?_)
          · skip
            refine goesU_ Tryd.func38 (by kernel_rfl) rfl #[.agg #[.bool t239, .int .u64 t240, .int .u64 t241]] (by rfl) rfl rfl rfl ag ?_
            with_reducible refine (frac_Add_1.calls _ _ _ _ _ _ _ A11.out).mono ?_
            rintro e w43 ⟨rfl, hb⟩
            refine ⟨_, rfl, ?_⟩
            replace BK216 := bb BK216 hb
            replace BK217 := bb BK217 hb
            replace BK218 := bb BK218 hb
            replace BK232 := bb BK232 hb
            replace HB := bs HB hb
            (try clear hb)
            refine hK.out _ _ ⟨ct BK217 0, ct BK217 1, ct BK216 0, ct BK216 1⟩ (fun hHeld => ?_)
            clear hK K
            refine nr_ (some 29) ?_
            exact norm_ (by first | (simp only [putAll, Act.put, si, s0, s1]; done) | (simp only [putAll, Act.put, si, s0, s1]; rfl)) (hJ3_6_7_8 () _ ⟨hHeld, (bx BK216), (bx BK217), (bx BK218), (bx BK232), (bf HB)⟩)
          · skip
            refine box_step ?hg (N := 9) ?hd (cs := #[.bool false, .int .u64 0, .int .u64 0]) (t := 50) ?hr ?_; (case hd => rfl); (case hg => rfl); (case hr => first | (go_simp; done) | (go_simp; rfl))
            intro gb245 hg w43 hbox hb
            have BK245 := Aside0.mk (hbox)
            have GW245 := bz HB hg
            have GE245 := bz HB hg
            have NB216_245 := bl BK216 hg
            have NB245_216 := bg BK216 hg
            have NB217_245 := bl BK217 hg
            have NB245_217 := bg BK217 hg
            have NB218_245 := bl BK218 hg
            have NB245_218 := bg BK218 hg
            have NB232_245 := bl BK232 hg
            have NB245_232 := bg BK232 hg
            replace BK216 := bb BK216 hb
            replace BK217 := bb BK217 hb
            replace BK218 := bb BK218 hb
            replace BK232 := bb BK232 hb
            replace HB := bs HB hb
            clear hb hg
            refine hK.out _ _ ⟨ct BK217 0, ct BK217 1, ct BK216 0, ct BK216 1⟩ (fun hHeld => ?_)
            clear hK K
            refine nr_ (some 9) ?_
            exact norm_ (by first | (simp only [putAll, Act.put, si, s0, s1]; done) | (simp only [putAll, Act.put, si, s0, s1]; rfl)) (hJ3_6_7_9 (gb245) _ ⟨hHeld, (bx BK216), (bx BK217), (bx BK218), (bx BK232), (bx BK245), GW245.out, GE245.out, NB216_245.out, NB245_216.out, NB217_245.out, NB245_217.out, NB218_245.out, NB245_218.out, NB232_245.out, NB245_232.out, (bf HB)⟩)
      · skip
        rintro gb245 w43 ⟨hS_, h0_, h1_, h2_, h3_, h4_, h5_, h6_, h7_, h8_, h9_, h10_, h11_, h12_, h13_, h14_, h15_⟩
        have n0_ : Aside0 (w43.heap[gb216]? = some (.cells #[.int .i64 t219, .int .i64 t220] 23 (0, 0))) := ⟨h0_⟩
        have n1_ : Aside0 (w43.heap[gb217]? = some (.cells #[.int .i64 t221, .int .i64 t222] 23 (0, 0))) := ⟨h1_⟩
        have n2_ : Aside0 (w43.heap[gb218]? = some (.cells #[.int .i64 0, .int .i64 0] 23 (0, 0))) := ⟨h2_⟩
        have n3_ : Aside0 (w43.heap[gb232]? = some (.cells #[.bool t229, .int .u64 t230, .int .u64 t231] 50 (0, 0))) := ⟨h3_⟩
        have n4_ : Aside0 (w43.heap[gb245]? = some (.cells #[.bool false, .int .u64 0, .int .u64 0] 50 (0, 0))) := ⟨h4_⟩
        have n5_ : Aside0 (w.heap.size ≤ gb245) := ⟨h5_⟩
        have n6_ : Aside0 (w.heap.size ≤ gb245) := ⟨h6_⟩
        have n7_ : Aside0 (gb216 ≠ gb245) := ⟨h7_⟩
        have n8_ : Aside0 (gb245 ≠ gb216) := ⟨h8_⟩
        have n9_ : Aside0 (gb217 ≠ gb245) := ⟨h9_⟩
        have n10_ : Aside0 (gb245 ≠ gb217) := ⟨h10_⟩
        have n11_ : Aside0 (gb218 ≠ gb245) := ⟨h11_⟩
        have n12_ : Aside0 (gb245 ≠ gb218) := ⟨h12_⟩
        have n13_ : Aside0 (gb232 ≠ gb245) := ⟨h13_⟩
        have n14_ : Aside0 (gb245 ≠ gb232) := ⟨h14_⟩
        have n15_ : Aside0 (Below w.heap.size w w43) := ⟨h15_⟩
        clear BK216
        clear BK217
        clear BK218
        clear BK232
        clear HB
        clear h0_ h1_ h2_ h3_ h4_ h5_ h6_ h7_ h8_ h9_ h10_ h11_ h12_ h13_ h14_ h15_
        have BK216 := n0_
        have BK217 := n1_
        have BK218 := n2_
        have BK232 := n3_
        have BK245 := n4_
        have GW245 := n5_
        have GE245 := n6_
        have NB216_245 := n7_
        have NB245_216 := n8_
        have NB217_245 := n9_
        have NB245_217 := n10_
        have NB218_245 := n11_
        have NB245_218 := n12_
        have NB232_245 := n13_
        have NB245_232 := n14_
        have HB := n15_
        clear n0_ n1_ n2_ n3_ n4_ n5_ n6_ n7_ n8_ n9_ n10_ n11_ n12_ n13_ n14_ n15_
        have hHeld : c_ w43 gb217 0 (.int .i64 t221) ∧ c_ w43 gb217 1 (.int .i64 t222) ∧ c_ w43 gb216 0 (.int .i64 t219) ∧ c_ w43 gb216 1 (.int .i64 t220) := hS_
        refine norm_ (a' := ?_) ?_ ?_
        rotate_left
        · simp only [putAll, Act.put, si, s0, s1]
          rfl
        refine o1_ 8 (some 29) (m_ 11 1023) rfl rfl (oo HT_) (fun K hK => ?_)
        refine goesU_ Tryd.func38 (by kernel_rfl) rfl #[.agg #[.bool t239, .int .u64 t240, .int .u64 t241]] (by rfl) rfl rfl rfl ag ?_
        with_reducible refine (frac_Add_1.calls _ _ _ _ _ _ _ A11.out).mono ?_
        rintro e w44 ⟨rfl, hb⟩
        refine ⟨_, rfl, ?_⟩
        replace BK216 := bb BK216 hb
        replace BK217 := bb BK217 hb
        replace BK218 := bb BK218 hb
        replace BK232 := bb BK232 hb
        replace BK245 := bb BK245 hb
        replace HB := bs HB hb
        (try clear hb)
        refine hK.out _ _ ⟨ct BK217 0, ct BK217 1, ct BK216 0, ct BK216 1⟩ (fun hHeld => ?_)
        clear hK K
        refine nr_ (some 29) ?_
        exact norm_ (by first | (simp only [putAll, Act.put, si, s0, s1]; done) | (simp only [putAll, Act.put, si, s0, s1]; rfl)) (hJ3_6_7_8_9 (gb245) _ ⟨hHeld, (bx BK216), (bx BK217), (bx BK218), (bx BK232), (bx BK245), GW245.out, GE245.out, NB216_245.out, NB245_216.out, NB217_245.out, NB245_217.out, NB218_245.out, NB245_218.out, NB232_245.out, NB245_232.out, (bf HB)⟩)
    · skip
      rintro _ w43 ⟨hS_, h0_, h1_, h2_, h3_, h4_⟩
      have n0_ : Aside0 (w43.heap[gb216]? = some (.cells #[.int .i64 t219, .int .i64 t220] 23 (0, 0))) := ⟨h0_⟩
      have n1_ : Aside0 (w43.heap[gb217]? = some (.cells #[.int .i64 t221, .int .i64 t222] 23 (0, 0))) := ⟨h1_⟩
      have n2_ : Aside0 (w43.heap[gb218]? = some (.cells #[.int .i64 0, .int .i64 0] 23 (0, 0))) := ⟨h2_⟩
      have n3_ : Aside0 (w43.heap[gb232]? = some (.cells #[.bool t229, .int .u64 t230, .int .u64 t231] 50 (0, 0))) := ⟨h3_⟩
      have n4_ : Aside0 (Below w.heap.size w w43) := ⟨h4_⟩
      clear BK216
      clear BK217
      clear BK218
      clear BK232
      clear HB
      clear h0_ h1_ h2_ h3_ h4_
      have BK216 := n0_
      have BK217 := n1_
      have BK218 := n2_
      have BK232 := n3_
      have HB := n4_
      clear n0_ n1_ n2_ n3_ n4_
      have hHeld : c_ w43 gb217 0 (.int .i64 t221) ∧ c_ w43 gb217 1 (.int .i64 t222) ∧ c_ w43 gb216 0 (.int .i64 t219) ∧ c_ w43 gb216 1 (.int .i64 t220) := hS_
      refine norm_ (a' := ?_) ?_ ?_
      rotate_left
      · simp only [putAll, Act.put, si, s0, s1]
        rfl
      refine o1_ 9 (some 9) (m_ 11 1023) rfl rfl (oo HT_) (fun K hK => ?_)
      refine box_step ?hg (N := 9) ?hd (cs := #[.bool false, .int .u64 0, .int .u64 0]) (t := 50) ?hr ?_; (case hd => rfl); (case hg => rfl); (case hr => first | (go_simp; done) | (go_simp; rfl))
      intro gb245 hg w44 hbox hb
      have BK245 := Aside0.mk (hbox)
      have GW245 := bz HB hg
      have GE245 := bz HB hg
      have NB216_245 := bl BK216 hg
      have NB245_216 := bg BK216 hg
      have NB217_245 := bl BK217 hg
      have NB245_217 := bg BK217 hg
      have NB218_245 := bl BK218 hg
      have NB245_218 := bg BK218 hg
      have NB232_245 := bl BK232 hg
      have NB245_232 := bg BK232 hg
      replace BK216 := bb BK216 hb
      replace BK217 := bb BK217 hb
      replace BK218 := bb BK218 hb
      replace BK232 := bb BK232 hb
      replace HB := bs HB hb
      clear hb hg
      refine hK.out _ _ ⟨ct BK217 0, ct BK217 1, ct BK216 0, ct BK216 1⟩ (fun hHeld => ?_)
      clear hK K
      refine nr_ (some 9) ?_
      exact norm_ (by first | (simp only [putAll, Act.put, si, s0, s1]; done) | (simp only [putAll, Act.put, si, s0, s1]; rfl)) (hJ3_6_7_8_9 (gb245) _ ⟨hHeld, (bx BK216), (bx BK217), (bx BK218), (bx BK232), (bx BK245), GW245.out, GE245.out, NB216_245.out, NB245_216.out, NB217_245.out, NB245_217.out, NB218_245.out, NB245_218.out, NB232_245.out, NB245_232.out, (bf HB)⟩)
  rintro gb245 w44 ⟨hS_, h0_, h1_, h2_, h3_, h4_, h5_, h6_, h7_, h8_, h9_, h10_, h11_, h12_, h13_, h14_, h15_⟩
  have n0_ : Aside0 (w44.heap[gb216]? = some (.cells #[.int .i64 t219, .int .i64 t220] 23 (0, 0))) := ⟨h0_⟩
  have n1_ : Aside0 (w44.heap[gb217]? = some (.cells #[.int .i64 t221, .int .i64 t222] 23 (0, 0))) := ⟨h1_⟩
  have n2_ : Aside0 (w44.heap[gb218]? = some (.cells #[.int .i64 0, .int .i64 0] 23 (0, 0))) := ⟨h2_⟩
  have n3_ : Aside0 (w44.heap[gb232]? = some (.cells #[.bool t229, .int .u64 t230, .int .u64 t231] 50 (0, 0))) := ⟨h3_⟩
  have n4_ : Aside0 (w44.heap[gb245]? = some (.cells #[.bool false, .int .u64 0, .int .u64 0] 50 (0, 0))) := ⟨h4_⟩
  have n5_ : Aside0 (w.heap.size ≤ gb245) := ⟨h5_⟩
  have n6_ : Aside0 (w.heap.size ≤ gb245) := ⟨h6_⟩
  have n7_ : Aside0 (gb216 ≠ gb245) := ⟨h7_⟩
  have n8_ : Aside0 (gb245 ≠ gb216) := ⟨h8_⟩
  have n9_ : Aside0 (gb217 ≠ gb245) := ⟨h9_⟩
  have n10_ : Aside0 (gb245 ≠ gb217) := ⟨h10_⟩
  have n11_ : Aside0 (gb218 ≠ gb245) := ⟨h11_⟩
  have n12_ : Aside0 (gb245 ≠ gb218) := ⟨h12_⟩
  have n13_ : Aside0 (gb232 ≠ gb245) := ⟨h13_⟩
  have n14_ : Aside0 (gb245 ≠ gb232) := ⟨h14_⟩
  have n15_ : Aside0 (Below w.heap.size w w44) := ⟨h15_⟩
  clear BK216
  clear BK217
  clear BK218
  clear BK232
  clear HB
  clear h0_ h1_ h2_ h3_ h4_ h5_ h6_ h7_ h8_ h9_ h10_ h11_ h12_ h13_ h14_ h15_
  have BK216 := n0_
  have BK217 := n1_
  have BK218 := n2_
  have BK232 := n3_
  have BK245 := n4_
  have GW245 := n5_
  have GE245 := n6_
  have NB216_245 := n7_
  have NB245_216 := n8_
  have NB217_245 := n9_
  have NB245_217 := n10_
  have NB218_245 := n11_
  have NB245_218 := n12_
  have NB232_245 := n13_
  have NB245_232 := n14_
  have HB := n15_
  clear n0_ n1_ n2_ n3_ n4_ n5_ n6_ n7_ n8_ n9_ n10_ n11_ n12_ n13_ n14_ n15_
  have hHeld : c_ w44 gb217 0 (.int .i64 t221) ∧ c_ w44 gb217 1 (.int .i64 t222) ∧ c_ w44 gb216 0 (.int .i64 t219) ∧ c_ w44 gb216 1 (.int .i64 t220) := hS_
  refine norm_ (a' := ?_) ?_ ?_
  rotate_left
  · simp only [putAll, Act.put, si, s0, s1]
    rfl
  refine o1_ 10 (none) (m_ 11 2047) rfl rfl (oo HT_) (fun K hK => ?_)
  have hs45 : c_ w44 gb245 0 (.bool false) := ct BK245 0
  have hfs45 := blk_frozen BK245.out 0
  have hns45_0 := NB216_245.out
  have hns45_1 := NB217_245.out
  have hns45_2 := NB218_245.out
  have hns45_3 := NB232_245.out
  have hms45_0 := NB245_216.out
  have hms45_1 := NB245_217.out
  have hms45_2 := NB245_218.out
  have hms45_3 := NB245_232.out
  have hs46 : c_ w44 gb245 1 (.int .u64 0) := ct BK245 1
  have hfs46 := blk_frozen BK245.out 1
  have hns46_0 := NB216_245.out
  have hns46_1 := NB217_245.out
  have hns46_2 := NB218_245.out
  have hns46_3 := NB232_245.out
  have hms46_0 := NB245_216.out
  have hms46_1 := NB245_217.out
  have hms46_2 := NB245_218.out
  have hms46_3 := NB245_232.out
  have hs47 : c_ w44 gb245 2 (.int .u64 0) := ct BK245 2
  have hfs47 := blk_frozen BK245.out 2
  have hns47_0 := NB216_245.out
  have hns47_1 := NB217_245.out
  have hns47_2 := NB218_245.out
  have hns47_3 := NB232_245.out
  have hms47_0 := NB245_216.out
  have hms47_1 := NB245_217.out
  have hms47_2 := NB245_218.out
  have hms47_3 := NB245_232.out
  refine skip_ (w1 := ?_) (by rfl) rfl ?_ ?_
  rotate_left
  · go_simp
    rfl
  refine hK.out _ _ ⟨((cell_far (p := ⟨gb245, _, none⟩) NB217_245.out _).trans (((cell_far (p := ⟨gb245, _, none⟩) NB217_245.out _).trans (((cell_far (p := ⟨gb245, _, none⟩) NB217_245.out _).trans (hHeld.1)))))), ((cell_far (p := ⟨gb245, _, none⟩) NB217_245.out _).trans (((cell_far (p := ⟨gb245, _, none⟩) NB217_245.out _).trans (((cell_far (p := ⟨gb245, _, none⟩) NB217_245.out _).trans (hHeld.2.1)))))), ((cell_far (p := ⟨gb245, _, none⟩) NB216_245.out _).trans (((cell_far (p := ⟨gb245, _, none⟩) NB216_245.out _).trans (((cell_far (p := ⟨gb245, _, none⟩) NB216_245.out _).trans (hHeld.2.2.1)))))), ((cell_far (p := ⟨gb245, _, none⟩) NB216_245.out _).trans (((cell_far (p := ⟨gb245, _, none⟩) NB216_245.out _).trans (((cell_far (p := ⟨gb245, _, none⟩) NB216_245.out _).trans (hHeld.2.2.2))))))⟩ (fun hHeld => ?_)
  clear hK K
  refine done_ (done_of HT_.out (by kernel_rfl)) ?_
  try go_wp2
  have n0_ : Aside0 ((((w44.setCell ⟨gb245, 0, none⟩ (.bool t242)).setCell ⟨gb245, 1, none⟩ (.int .u64 t243)).setCell ⟨gb245, 2, none⟩ (.int .u64 t244)).heap[gb216]? = some (.cells #[.int .i64 t219, .int .i64 t220] 23 (0, 0))) := bu_ BK216
  have n1_ : Aside0 ((((w44.setCell ⟨gb245, 0, none⟩ (.bool t242)).setCell ⟨gb245, 1, none⟩ (.int .u64 t243)).setCell ⟨gb245, 2, none⟩ (.int .u64 t244)).heap[gb217]? = some (.cells #[.int .i64 t221, .int .i64 t222] 23 (0, 0))) := bu_ BK217
  have n2_ : Aside0 ((((w44.setCell ⟨gb245, 0, none⟩ (.bool t242)).setCell ⟨gb245, 1, none⟩ (.int .u64 t243)).setCell ⟨gb245, 2, none⟩ (.int .u64 t244)).heap[gb218]? = some (.cells #[.int .i64 0, .int .i64 0] 23 (0, 0))) := bu_ BK218
  have n3_ : Aside0 ((((w44.setCell ⟨gb245, 0, none⟩ (.bool t242)).setCell ⟨gb245, 1, none⟩ (.int .u64 t243)).setCell ⟨gb245, 2, none⟩ (.int .u64 t244)).heap[gb232]? = some (.cells #[.bool t229, .int .u64 t230, .int .u64 t231] 50 (0, 0))) := bu_ BK232
  have n4_ : Aside0 ((((w44.setCell ⟨gb245, 0, none⟩ (.bool t242)).setCell ⟨gb245, 1, none⟩ (.int .u64 t243)).setCell ⟨gb245, 2, none⟩ (.int .u64 t244)).heap[gb245]? = some (.cells #[.bool t242, .int .u64 t243, .int .u64 t244] 50 (0, 0))) := bq_ BK245
  have n5_ : Aside0 (Below w.heap.size w (((w44.setCell ⟨gb245, 0, none⟩ (.bool t242)).setCell ⟨gb245, 1, none⟩ (.int .u64 t243)).setCell ⟨gb245, 2, none⟩ (.int .u64 t244))) := ⟨bf HB⟩
  (try clear BK216); (try clear BK217); (try clear BK218); (try clear BK232); (try clear BK245); (try clear HB)
  generalize (((w44.setCell ⟨gb245, 0, none⟩ (.bool t242)).setCell ⟨gb245, 1, none⟩ (.int .u64 t243)).setCell ⟨gb245, 2, none⟩ (.int .u64 t244)) = w48 at n0_ n1_ n2_ n3_ n4_ n5_ ⊢
  have BK216 := n0_
  have BK217 := n1_
  have BK218 := n2_
  have BK232 := n3_
  have BK245 := n4_
  have HB := n5_
  clear n0_ n1_ n2_ n3_ n4_ n5_
  replace BK216 := Aside0.mk (blk_drew BK216.out)
  replace BK217 := Aside0.mk (blk_drew BK217.out)
  replace BK218 := Aside0.mk (blk_drew BK218.out)
  replace BK232 := Aside0.mk (blk_drew BK232.out)
  replace BK245 := Aside0.mk (blk_drew BK245.out)
  replace HB := Aside0.mk (below_drew1 HB.out)
  refine start_ (n := 15) (S := fun w' => c_ w' gb232 0 (.bool t229) ∧ c_ w' gb232 1 (.int .u64 t230) ∧ c_ w' gb232 2 (.int .u64 t231) ∧ c_ w' gb245 0 (.bool t242) ∧ c_ w' gb245 1 (.int .u64 t243) ∧ c_ w' gb245 2 (.int .u64 t244) ∧ c_ w' gb216 0 (.int .i64 t219) ∧ c_ w' gb216 1 (.int .i64 t220) ∧ c_ w' gb217 0 (.int .i64 t221) ∧ c_ w' gb217 1 (.int .i64 t222)) (ds := []) (m_ 15 0) (by kernel_rfl) rfl rfl ⟨ct BK232 0, ct BK232 1, ct BK232 2, ct BK245 0, ct BK245 1, ct BK245 2, ct BK216 0, ct BK216 1, ct BK217 0, ct BK217 1⟩ (fun hHeld => ?_); refine with_tabW frac_added_fn38.tab4 frac_added_fn38.bits4 (fun HT_ HW_ => ?_)
  generalize w48.drew = w49 at BK216 BK217 BK218 BK232 BK245 HB hHeld ⊢
  refine pu_ 3 (some 33) (m_ 15 8) rfl rfl (ao HT_) ?_
  refine pu_ 6 (some 36) (m_ 15 72) rfl rfl (ao HT_) ?_
  refine tk_ 0 (some 30) (m_ 15 73) rfl rfl (tw HT_ HW_) hHeld ?_
  refine tk_ 1 (some 31) (m_ 15 75) rfl rfl (tw HT_ HW_) hHeld ?_
  refine tk_ 4 (some 34) (m_ 15 91) rfl rfl (tw HT_ HW_) hHeld ?_
  refine tk_ 7 (some 37) (m_ 15 219) rfl rfl (tw HT_ HW_) hHeld ?_
  refine o1_ 2 (some 32) (m_ 15 223) rfl rfl (oo HT_) (fun K hK => ?_)
  refine gs_ rfl Tryd.func67 (frac_signed_plus.calls _ _ _ _ _ _ _ _ _ _ A12.out) ag ?_
  intro w50 hb
  replace BK216 := bb BK216 hb
  replace BK217 := bb BK217 hb
  replace BK218 := bb BK218 hb
  replace BK232 := bb BK232 hb
  replace BK245 := bb BK245 hb
  replace HB := bs HB hb
  (try clear hb)
  refine hK.out _ _ ⟨ct BK232 0, ct BK232 1, ct BK232 2, ct BK245 0, ct BK245 1, ct BK245 2, ct BK216 0, ct BK216 1, ct BK217 0, ct BK217 1⟩ (fun hHeld => ?_)
  clear hK K
  refine nr_ (some 32) ?_
  refine o1_ 5 (some 35) (m_ 15 255) rfl rfl (oo HT_) (fun K hK => ?_)
  refine gs_ rfl Tryd.func52 (frac_sized.calls _ _ _ _ _ A13.out) ag ?_
  intro w51 hb
  replace BK216 := bb BK216 hb
  replace BK217 := bb BK217 hb
  replace BK218 := bb BK218 hb
  replace BK232 := bb BK232 hb
  replace BK245 := bb BK245 hb
  replace HB := bs HB hb
  (try clear hb)
  refine hK.out _ _ ⟨ct BK232 0, ct BK232 1, ct BK232 2, ct BK245 0, ct BK245 1, ct BK245 2, ct BK216 0, ct BK216 1, ct BK217 0, ct BK217 1⟩ (fun hHeld => ?_)
  clear hK K
  refine nr_ (some 35) ?_
  refine o1_ 8 (some 38) (m_ 15 511) rfl rfl (oo HT_) (fun K hK => ?_)
  refine gs_ rfl Tryd.func52 (frac_sized.calls _ _ _ _ _ A14.out) ag ?_
  intro w52 hb
  replace BK216 := bb BK216 hb
  replace BK217 := bb BK217 hb
  replace BK218 := bb BK218 hb
  replace BK232 := bb BK232 hb
  replace BK245 := bb BK245 hb
  replace HB := bs HB hb
  (try clear hb)
  refine hK.out _ _ ⟨ct BK232 0, ct BK232 1, ct BK232 2, ct BK245 0, ct BK245 1, ct BK245 2, ct BK216 0, ct BK216 1, ct BK217 0, ct BK217 1⟩ (fun hHeld => ?_)
  clear hK K
  refine nr_ (some 38) ?_
  refine o1_ 9 (some 39) (m_ 15 1023) rfl rfl (oo HT_) (fun K hK => ?_)
  refine gs_ rfl Tryd.func57 (frac_signed_times.calls _ _ _ _ _ _ _ _ _ _ A15.out) ag ?_
  intro w53 hb
  replace BK216 := bb BK216 hb
  replace BK217 := bb BK217 hb
  replace BK218 := bb BK218 hb
  replace BK232 := bb BK232 hb
  replace BK245 := bb BK245 hb
  replace HB := bs HB hb
  (try clear hb)
  refine hK.out _ _ ⟨ct BK232 0, ct BK232 1, ct BK232 2, ct BK245 0, ct BK245 1, ct BK245 2, ct BK216 0, ct BK216 1, ct BK217 0, ct BK217 1⟩ (fun hHeld => ?_)
  clear hK K
  refine nr_ (some 39) ?_
  refine o1_ 10 (some 40) (m_ 15 2047) rfl rfl (oo HT_) (fun K hK => ?_)
  refine gs_ rfl Tryd.func51 (frac_reduced.calls _ _ _ _ _ _ _ _ _ _ _ A16.out (tt GT)) ag ?_
  intro w54 hb
  replace BK216 := bb BK216 hb
  replace BK217 := bb BK217 hb
  replace BK218 := bb BK218 hb
  replace BK232 := bb BK232 hb
  replace BK245 := bb BK245 hb
  replace HB := bs HB hb
  (try clear hb)
  refine hK.out _ _ ⟨ct BK232 0, ct BK232 1, ct BK232 2, ct BK245 0, ct BK245 1, ct BK245 2, ct BK216 0, ct BK216 1, ct BK217 0, ct BK217 1⟩ (fun hHeld => ?_)
  clear hK K
  refine nr_ (some 40) ?_
  refine pu_ 11 (some 41) (m_ 15 4095) rfl rfl (ao HT_) ?_
  refine pu_ 12 (some 42) (m_ 15 8191) rfl rfl (ao HT_) ?_
  refine o1_ 13 (none) (m_ 15 16383) rfl rfl (oo HT_) (fun K hK => ?_)
  have hs55 : c_ w54 gb218 0 (.int .i64 0) := ct BK218 0
  have hfs55 := blk_frozen BK218.out 0
  have hns55_0 := NB216_218.out
  have hns55_1 := NB217_218.out
  have hns55_3 := NB232_218.out
  have hns55_4 := NB245_218.out
  have hms55_0 := NB218_216.out
  have hms55_1 := NB218_217.out
  have hms55_3 := NB218_232.out
  have hms55_4 := NB218_245.out
  have hs56 : c_ w54 gb218 1 (.int .i64 0) := ct BK218 1
  have hfs56 := blk_frozen BK218.out 1
  have hns56_0 := NB216_218.out
  have hns56_1 := NB217_218.out
  have hns56_3 := NB232_218.out
  have hns56_4 := NB245_218.out
  have hms56_0 := NB218_216.out
  have hms56_1 := NB218_217.out
  have hms56_3 := NB218_232.out
  have hms56_4 := NB218_245.out
  refine skip_ (w1 := ?_) (by rfl) rfl ?_ ?_
  rotate_left
  · go_simp
    rfl
  refine hK.out _ _ ⟨((cell_far (p := ⟨gb218, _, none⟩) NB232_218.out _).trans (((cell_far (p := ⟨gb218, _, none⟩) NB232_218.out _).trans (hHeld.1)))), ((cell_far (p := ⟨gb218, _, none⟩) NB232_218.out _).trans (((cell_far (p := ⟨gb218, _, none⟩) NB232_218.out _).trans (hHeld.2.1)))), ((cell_far (p := ⟨gb218, _, none⟩) NB232_218.out _).trans (((cell_far (p := ⟨gb218, _, none⟩) NB232_218.out _).trans (hHeld.2.2.1)))), ((cell_far (p := ⟨gb218, _, none⟩) NB245_218.out _).trans (((cell_far (p := ⟨gb218, _, none⟩) NB245_218.out _).trans (hHeld.2.2.2.1)))), ((cell_far (p := ⟨gb218, _, none⟩) NB245_218.out _).trans (((cell_far (p := ⟨gb218, _, none⟩) NB245_218.out _).trans (hHeld.2.2.2.2.1)))), ((cell_far (p := ⟨gb218, _, none⟩) NB245_218.out _).trans (((cell_far (p := ⟨gb218, _, none⟩) NB245_218.out _).trans (hHeld.2.2.2.2.2.1)))), ((cell_far (p := ⟨gb218, _, none⟩) NB216_218.out _).trans (((cell_far (p := ⟨gb218, _, none⟩) NB216_218.out _).trans (hHeld.2.2.2.2.2.2.1)))), ((cell_far (p := ⟨gb218, _, none⟩) NB216_218.out _).trans (((cell_far (p := ⟨gb218, _, none⟩) NB216_218.out _).trans (hHeld.2.2.2.2.2.2.2.1)))), ((cell_far (p := ⟨gb218, _, none⟩) NB217_218.out _).trans (((cell_far (p := ⟨gb218, _, none⟩) NB217_218.out _).trans (hHeld.2.2.2.2.2.2.2.2.1)))), ((cell_far (p := ⟨gb218, _, none⟩) NB217_218.out _).trans (((cell_far (p := ⟨gb218, _, none⟩) NB217_218.out _).trans (hHeld.2.2.2.2.2.2.2.2.2))))⟩ (fun hHeld => ?_)
  clear hK K
  refine pu_ 14 (some 7) (m_ 15 32767) rfl rfl (ao HT_) ?_
  refine done_ (done_of HT_.out (by kernel_rfl)) ?_
  try go_wp2
  refine bodyPost_ret (results_ct rfl _ _ gb218 23 #[.int .i64 t258, .int .i64 t259] (0, 0) _ rfl (br_ BK218) Tryd.underlying23 rfl (by kernel_rfl)) rfl ?_
  exact ⟨ae, bf HB⟩

end Go.Proofs.YtjgnaccamakpdaaDoor.X
