/- Walks: each '.calls' says that the Go function comes to what its Lean function tells. Conditions: as each theorem's head says. -/
import Derived.Test.YtpdmiookdmncpaaDoorXD
import Derived.Test.YtpdmiookdmncpaaDoorX0
import Derived.Test.YtpdmiookdmncpaaDoorX2
import Derived.Test.YtpdmiookdmncpaaDoorX6
namespace Go.Proofs.YtpdmiookdmncpaaDoor.X
open Go.RowKit Go.Proofs.YtpdmiookdmncpaaDoorW.PrintWords Go.Proofs.YtpdmiookdmncpaaDoorW.PrintLast Go.Proofs.YtpdmiookdmncpaaDoorW.PrintMore
attribute [local go_sem] max2_int min2_int max_two min_two max_three min_three max_four min_four   -- for this text's walks alone
set_option linter.unusedVariables false
set_option maxHeartbeats 8000000
set_option maxRecDepth 100000
set_option linter.unusedSimpArgs false

/-! ### frac_norm: function 66 -/
theorem frac_norm.calls (k : Nat) (a0_0 : Int) (a0_1 : Int) (r1 : Int) (r2 : Int) (w : World) (h : frac_norm.f k a0_0 a0_1 = some (r1, r2)) (hT : TabOK w) :
    Calls Tryd.prog 66 #[.agg #[.int .i64 a0_0, .int .i64 a0_1]] w fun e w' => e = .returned (.agg #[.int .i64 r1, .int .i64 r2]) ∧ Below w.heap.size w w' := by
  have GT := Aside0.mk hT
  clear hT
  have hu23 := Tryd.underlying23
  have HB := Aside0.mk (Below.refl w.heap.size w)
  have H : ((frac_Right.f k a0_0 a0_1).bind fun t196 => (if t196 = true then (some (a0_0, a0_1)) else ((frac_nought.f).bind fun bt197 => (some (bt197.1, bt197.2))))) = some (r1, r2) := h
  clear h
  replace H := bi_ H; obtain ⟨t196, A2, H⟩ := H
  (try dsimp only at H)
  by_cases c3 : t196 = true
  · subst c3
    have H1 : (some (a0_0, a0_1)) = some (r1, r2) := by rw [if_pos rfl] at H; exact H
    clear H
    have H := H1
    clear H1
    simp only [Option.some.injEq, Prod.mk.injEq] at H
    obtain ⟨rfl, rfl⟩ := H
    go_enter Tryd.func66, Tryd.ntmps66
    go_wp2_with (first | ((with_reducible refine gd 1 rfl ?_); refine bx_ 1 23 #[.int .i64 a0_0, .int .i64 a0_1] rfl rfl ?_; intro gb194 hg w4 BK194 hb; have GE194 := bz HB hg; replace HB := bs HB hb; clear hb hg) | ((with_reducible refine gd 2 rfl ?_); refine bx_ 2 23 #[.int .i64 0, .int .i64 0] rfl rfl ?_; intro gb195 hg w5 BK195 hb; have GE195 := bz HB hg; have ⟨NB194_195, NB195_194⟩ := nb BK194 hg; replace BK194 := bb BK194 hb; replace HB := bs HB hb; clear hb hg; have hnb6 := nn NB194_195; have hcz7 := k2 BK194) | ((with_reducible refine gc 33 rfl ?_); refine gm_ (some 4) rfl rfl Tryd.func33 (frac_Right.calls _ _ _ _ _ A2.out (tt GT)) ag ?_; intro w8 hb; replace BK194 := bb BK194 hb; replace BK195 := bb BK195 hb; replace HB := bs HB hb; (try clear hb); have hcz9 := k2 BK194; have hcz10 := k2 BK195))
    refine bodyPost_ret (results_cell_row rfl _ _ gb195 23 #[.int .i64 a0_0, .int .i64 a0_1] (0, 0) _ rfl (br_ BK195) Tryd.underlying23 rfl (by kernel_rfl)) rfl ?_
    exact ⟨ae, bf HB⟩
  · replace c3 := Bool.eq_false_iff.mpr c3
    subst c3
    have H1 : ((frac_nought.f).bind fun bt197 => (some (bt197.1, bt197.2))) = some (r1, r2) := by rw [if_neg (show ¬ (false = true) by decide)] at H; exact H
    clear H
    have H := H1
    clear H1
    replace H := bi_ H; obtain ⟨⟨t197, t198⟩, A11, H⟩ := H
    (try dsimp only at H)
    simp only [Option.some.injEq, Prod.mk.injEq] at H
    obtain ⟨rfl, rfl⟩ := H
    go_enter Tryd.func66, Tryd.ntmps66
    go_wp2_with (first | ((with_reducible refine gd 1 rfl ?_); refine bx_ 1 23 #[.int .i64 a0_0, .int .i64 a0_1] rfl rfl ?_; intro gb194 hg w12 BK194 hb; have GE194 := bz HB hg; replace HB := bs HB hb; clear hb hg) | ((with_reducible refine gd 2 rfl ?_); refine bx_ 2 23 #[.int .i64 0, .int .i64 0] rfl rfl ?_; intro gb195 hg w13 BK195 hb; have GE195 := bz HB hg; have ⟨NB194_195, NB195_194⟩ := nb BK194 hg; replace BK194 := bb BK194 hb; replace HB := bs HB hb; clear hb hg; have hnb14 := nn NB194_195; have hcz15 := k2 BK194) | ((with_reducible refine gc 33 rfl ?_); refine gm_ (some 4) rfl rfl Tryd.func33 (frac_Right.calls _ _ _ _ _ A2.out (tt GT)) ag ?_; intro w16 hb; replace BK195 := bb BK195 hb; replace HB := bs HB hb; (try clear hb)) | ((with_reducible refine gc 82 rfl ?_); refine gm_ (some 6) rfl rfl Tryd.func82 (frac_nought.calls _ _ _ A11.out) ag ?_; intro w17 hb; replace BK195 := bb BK195 hb; replace HB := bs HB hb; (try clear hb); have hcz18 := k2 BK195))
    refine bodyPost_ret (results_cell_row rfl _ _ gb195 23 #[.int .i64 t197, .int .i64 t198] (0, 0) _ rfl (br_ BK195) Tryd.underlying23 rfl (by kernel_rfl)) rfl ?_
    exact ⟨ae, bf HB⟩

/-! ### bits_Mul64: function 107 -/
theorem bits_Mul64.calls (a0 : Int) (a1 : Int) (r1 : Int) (r2 : Int) (w : World) (h : bits_Mul64.f a0 a1 = some (r1, r2)) :
    Calls Tryd.prog 107 #[.int .u64 a0, .int .u64 a1] w fun e w' => e = .returned (.tuple #[.int .u64 r1, .int .u64 r2]) ∧ Drawn0 w w' := by
  have H : (some (IntKind.u64.wrap ((IntKind.u64.wrap ((IntKind.u64.wrap ((a0 / 4294967296) * (a1 / 4294967296))) + ((IntKind.u64.wrap ((IntKind.u64.wrap ((a0 / 4294967296) * (Go.bits .and .u64 a1 4294967295))) + ((IntKind.u64.wrap ((Go.bits .and .u64 a0 4294967295) * (Go.bits .and .u64 a1 4294967295))) / 4294967296))) / 4294967296))) + ((IntKind.u64.wrap ((Go.bits .and .u64 (IntKind.u64.wrap ((IntKind.u64.wrap ((a0 / 4294967296) * (Go.bits .and .u64 a1 4294967295))) + ((IntKind.u64.wrap ((Go.bits .and .u64 a0 4294967295) * (Go.bits .and .u64 a1 4294967295))) / 4294967296))) 4294967295) + (IntKind.u64.wrap ((Go.bits .and .u64 a0 4294967295) * (a1 / 4294967296))))) / 4294967296)), IntKind.u64.wrap (a0 * a1))) = some (r1, r2) := h
  clear h
  simp only [Option.some.injEq, Prod.mk.injEq] at H
  obtain ⟨rfl, rfl⟩ := H
  go_enter Tryd.func107, Tryd.ntmps107
  go_wp2
  go_ret2
  exact ⟨aq, dr⟩

/-! ### frac_multiply: function 90 -/
theorem frac_multiply.calls (a0 : Int) (a1 : Int) (r1 : Int) (r2 : Int) (w : World) (h : frac_multiply.f a0 a1 = some (r1, r2)) :
    Calls Tryd.prog 90 #[.int .u64 a0, .int .u64 a1] w fun e w' => e = .returned (.agg #[.int .u64 r1, .int .u64 r2]) ∧ Below w.heap.size w w' := by
  have hu104 := Tryd.underlying104
  have HB := Aside0.mk (Below.refl w.heap.size w)
  have H : ((bits_Mul64.f a0 a1).bind fun bt200 => (some (bt200.1, bt200.2))) = some (r1, r2) := h
  clear h
  replace H := bi_ H; obtain ⟨⟨t200, t201⟩, A3, H⟩ := H
  (try dsimp only at H)
  simp only [Option.some.injEq, Prod.mk.injEq] at H
  obtain ⟨rfl, rfl⟩ := H
  go_enter Tryd.func90, Tryd.ntmps90
  go_wp2_with (first | ((with_reducible refine gd 4 rfl ?_); refine bx_ 4 104 #[.int .u64 0, .int .u64 0] rfl rfl ?_; intro gb199 hg w4 BK199 hb; have GE199 := bz HB hg; replace HB := bs HB hb; clear hb hg) | ((with_reducible refine gc 107 rfl ?_); refine gm_ (some 10) rfl rfl Tryd.func107 (bits_Mul64.calls _ _ _ _ _ A3.out) ag ?_; rintro w' ⟨nd, rfl⟩; (try (rw [drewN_self w4]; generalize hq_ : World.drewN w4 _ = w4; have n0_ : Aside0 (w4.heap[gb199]? = some (.cells #[.int .u64 0, .int .u64 0] 104 (0, 0))) := ⟨by rw [← hq_]; exact (bx BK199)⟩; have n1_ : Aside0 (Below w.heap.size w w4) := ⟨by rw [← hq_]; exact (bf HB)⟩; clear BK199 HB hq_; have BK199 := n0_; have HB := n1_; clear n0_ n1_)); have hcz5 := k2 BK199))
  refine bodyPost_ret (results_cell_row rfl _ _ gb199 104 #[.int .u64 t200, .int .u64 t201] (0, 0) _ rfl (br_ BK199) Tryd.underlying104 rfl (by kernel_rfl)) rfl ?_
  exact ⟨ae, bf HB⟩

/-! ### frac_signed_times: function 67 -/
def frac_signed_times.T1 : Bool × List (List Nat × List Nat) := (true, [([], []), ([0], [0]), ([], []), ([2], [2]), ([1, 3], [1, 3]), ([], []), ([5], [5]), ([6], [6]), ([], []), ([8], [8]), ([9], [9]), ([7, 10], [7, 10]), ([4, 11], [4, 11]), ([12, 11, 0, 1, 2, 3, 4, 5, 6, 7, 8, 9, 10, 11, 12], [12])])
def frac_signed_times.B1 : List Nat := [0, 1, 0, 4, 15, 0, 32, 96, 0, 256, 768, 2016, 4095, 8191]
theorem frac_signed_times.tab1 : rtab .any (opsOf Tryd.f67 1) = frac_signed_times.T1 := by kernel_rfl
theorem frac_signed_times.bits1 : waitsOk frac_signed_times.T1.2 frac_signed_times.B1 = true := by kernel_rfl
theorem frac_signed_times.calls (a0_0 : Bool) (a0_1 : Int) (a0_2 : Int) (a1_0 : Bool) (a1_1 : Int) (a1_2 : Int) (r1 : Bool) (r2 : Int) (r3 : Int) (w : World) (h : frac_signed_times.f a0_0 a0_1 a0_2 a1_0 a1_1 a1_2 = some (r1, r2, r3)) :
    Calls Tryd.prog 67 #[.agg #[.bool a0_0, .int .u64 a0_1, .int .u64 a0_2], .agg #[.bool a1_0, .int .u64 a1_1, .int .u64 a1_2]] w fun e w' => e = .returned (.agg #[.bool r1, .int .u64 r2, .int .u64 r3]) ∧ Below w.heap.size w w' := by
  have hu106 := Tryd.underlying106
  have HB := Aside0.mk (Below.refl w.heap.size w)
  have H : ((frac_multiply.f a0_2 a1_2).bind fun bt205 => (some ((a0_0 != a1_0), bt205.1, bt205.2))) = some (r1, r2, r3) := h
  clear h
  replace H := bi_ H; obtain ⟨⟨t205, t206⟩, A3, H⟩ := H
  (try dsimp only at H)
  simp only [Option.some.injEq, Prod.mk.injEq] at H
  obtain ⟨rfl, rfl, rfl⟩ := H
  go_enter Tryd.func67, Tryd.ntmps67
  try go_wp2_with (first | ((with_reducible refine gd 2 rfl ?_); refine bx_ 2 106 #[.bool a0_0, .int .u64 a0_1, .int .u64 a0_2] rfl rfl ?_; intro gb202 hg w4 BK202 hb; have GE202 := bz HB hg; replace HB := bs HB hb; clear hb hg) | ((with_reducible refine gd 3 rfl ?_); refine bx_ 3 106 #[.bool a1_0, .int .u64 a1_1, .int .u64 a1_2] rfl rfl ?_; intro gb203 hg w5 BK203 hb; have GE203 := bz HB hg; have ⟨NB202_203, NB203_202⟩ := nb BK202 hg; replace BK202 := bb BK202 hb; replace HB := bs HB hb; clear hb hg) | ((with_reducible refine gd 4 rfl ?_); refine bx_ 4 106 #[.bool false, .int .u64 0, .int .u64 0] rfl rfl ?_; intro gb204 hg w6 BK204 hb; have GE204 := bz HB hg; have ⟨NB202_204, NB204_202⟩ := nb BK202 hg; have ⟨NB203_204, NB204_203⟩ := nb BK203 hg; replace BK202 := bb BK202 hb; replace BK203 := bb BK203 hb; replace HB := bs HB hb; clear hb hg))
  replace BK202 := Aside0.mk (blk_drew BK202.out)
  replace BK203 := Aside0.mk (blk_drew BK203.out)
  replace BK204 := Aside0.mk (blk_drew BK204.out)
  replace HB := Aside0.mk (below_drew1 HB.out)
  refine start_ (n := 14) (S := fun w' => c_ w' gb202 0 (.bool a0_0) ∧ c_ w' gb202 1 (.int .u64 a0_1) ∧ c_ w' gb202 2 (.int .u64 a0_2) ∧ c_ w' gb203 0 (.bool a1_0) ∧ c_ w' gb203 1 (.int .u64 a1_1) ∧ c_ w' gb203 2 (.int .u64 a1_2)) (ds := []) (m_ 14 0) (by kernel_rfl) rfl rfl ⟨ct BK202 0, ct BK202 1, ct BK202 2, ct BK203 0, ct BK203 1, ct BK203 2⟩ (fun hHeld => ?_); refine with_tabW frac_signed_times.tab1 frac_signed_times.bits1 (fun HT_ HW_ => ?_)
  generalize w6.drew = w7 at BK202 BK203 BK204 HB hHeld ⊢
  refine pu_ 0 (some 5) (m_ 14 1) rfl rfl (ao HT_) ?_
  refine pu_ 2 (some 7) (m_ 14 5) rfl rfl (ao HT_) ?_
  refine pu_ 5 (some 10) (m_ 14 37) rfl rfl (ao HT_) ?_
  refine pu_ 6 (some 11) (m_ 14 101) rfl rfl (ao HT_) ?_
  refine pu_ 8 (some 13) (m_ 14 357) rfl rfl (ao HT_) ?_
  refine pu_ 9 (some 14) (m_ 14 869) rfl rfl (ao HT_) ?_
  refine tk_ 1 (some 6) (m_ 14 871) rfl rfl (tw HT_ HW_) hHeld ?_
  refine tk_ 3 (some 8) (m_ 14 879) rfl rfl (tw HT_ HW_) hHeld ?_
  refine pu_ 4 (some 9) (m_ 14 895) rfl rfl (ao HT_) ?_
  refine tk_ 7 (some 12) (m_ 14 1023) rfl rfl (tw HT_ HW_) hHeld ?_
  refine tk_ 10 (some 15) (m_ 14 2047) rfl rfl (tw HT_ HW_) hHeld ?_
  refine o1_ 11 (some 16) (m_ 14 4095) rfl rfl (oo HT_) (fun K hK => ?_)
  refine gs_ rfl Tryd.func90 (frac_multiply.calls _ _ _ _ _ A3.out) ag ?_
  intro w8 hb
  replace BK202 := bb BK202 hb
  replace BK203 := bb BK203 hb
  replace BK204 := bb BK204 hb
  replace HB := bs HB hb
  (try clear hb)
  refine hK.out _ _ ⟨ct BK202 0, ct BK202 1, ct BK202 2, ct BK203 0, ct BK203 1, ct BK203 2⟩ (fun hHeld => ?_)
  clear hK K
  refine nr_ (some 16) ?_
  refine pu_ 12 (some 17) (m_ 14 8191) rfl rfl (ao HT_) ?_
  refine o1_ 13 (none) (m_ 14 16383) rfl rfl (oo HT_) (fun K hK => ?_)
  have hs9 : c_ w8 gb204 0 (.bool false) := ct BK204 0
  have hfs9 := blk_frozen BK204.out 0
  have hns9_0 := NB202_204.out
  have hns9_1 := NB203_204.out
  have hms9_0 := NB204_202.out
  have hms9_1 := NB204_203.out
  have hs10 : c_ w8 gb204 1 (.int .u64 0) := ct BK204 1
  have hfs10 := blk_frozen BK204.out 1
  have hns10_0 := NB202_204.out
  have hns10_1 := NB203_204.out
  have hms10_0 := NB204_202.out
  have hms10_1 := NB204_203.out
  have hs11 : c_ w8 gb204 2 (.int .u64 0) := ct BK204 2
  have hfs11 := blk_frozen BK204.out 2
  have hns11_0 := NB202_204.out
  have hns11_1 := NB203_204.out
  have hms11_0 := NB204_202.out
  have hms11_1 := NB204_203.out
  refine skip_ (w1 := ?_) (by rfl) rfl ?_ ?_
  rotate_left
  · go_simp
    rfl
  refine hK.out _ _ ⟨((cell_far (p := ⟨gb204, _, none⟩) NB202_204.out _).trans (((cell_far (p := ⟨gb204, _, none⟩) NB202_204.out _).trans (((cell_far (p := ⟨gb204, _, none⟩) NB202_204.out _).trans (hHeld.1)))))), ((cell_far (p := ⟨gb204, _, none⟩) NB202_204.out _).trans (((cell_far (p := ⟨gb204, _, none⟩) NB202_204.out _).trans (((cell_far (p := ⟨gb204, _, none⟩) NB202_204.out _).trans (hHeld.2.1)))))), ((cell_far (p := ⟨gb204, _, none⟩) NB202_204.out _).trans (((cell_far (p := ⟨gb204, _, none⟩) NB202_204.out _).trans (((cell_far (p := ⟨gb204, _, none⟩) NB202_204.out _).trans (hHeld.2.2.1)))))), ((cell_far (p := ⟨gb204, _, none⟩) NB203_204.out _).trans (((cell_far (p := ⟨gb204, _, none⟩) NB203_204.out _).trans (((cell_far (p := ⟨gb204, _, none⟩) NB203_204.out _).trans (hHeld.2.2.2.1)))))), ((cell_far (p := ⟨gb204, _, none⟩) NB203_204.out _).trans (((cell_far (p := ⟨gb204, _, none⟩) NB203_204.out _).trans (((cell_far (p := ⟨gb204, _, none⟩) NB203_204.out _).trans (hHeld.2.2.2.2.1)))))), ((cell_far (p := ⟨gb204, _, none⟩) NB203_204.out _).trans (((cell_far (p := ⟨gb204, _, none⟩) NB203_204.out _).trans (((cell_far (p := ⟨gb204, _, none⟩) NB203_204.out _).trans (hHeld.2.2.2.2.2))))))⟩ (fun hHeld => ?_)
  clear hK K
  refine done_ (done_of HT_.out (by kernel_rfl)) ?_
  try go_wp2
  refine bodyPost_ret (results_cell_row rfl _ _ gb204 106 #[.bool (a0_0 != a1_0), .int .u64 t205, .int .u64 t206] (0, 0) _ rfl (br_ BK204) Tryd.underlying106 rfl (by kernel_rfl)) rfl ?_
  exact ⟨ae, bf HB⟩

end Go.Proofs.YtpdmiookdmncpaaDoor.X
