/- Walks: each '.calls' says that the Go function comes to what its Lean function tells. Conditions: as each theorem's head says. -/
import Derived.Test.YtnocpmngpekceaaDoorXD
import Derived.Test.YtnocpmngpekceaaDoorX0
import Derived.Test.YtnocpmngpekceaaDoorX3
import Derived.Test.YtnocpmngpekceaaDoorX14
namespace Go.Proofs.YtnocpmngpekceaaDoor.X
open Go.RowKit Go.Proofs.YtnocpmngpekceaaDoorW.PrintWords Go.Proofs.YtnocpmngpekceaaDoorW.PrintLast Go.Proofs.YtnocpmngpekceaaDoorW.PrintMore
attribute [local go_sem] max2_int min2_int max_two min_two max_three min_three max_four min_four   -- for this text's walks alone
set_option linter.unusedVariables false
set_option maxHeartbeats 8000000
set_option maxRecDepth 100000
set_option linter.unusedSimpArgs false

/-! ### demand_number: function 50 -/
theorem demand_number.calls (a0 : Int) (r1 : Int) (r2 : Int) (w : World) (h : demand_number.f a0 = some (r1, r2)) :
    Calls Tryd.prog 50 #[.int .i64 a0] w fun e w' => e = .returned (.agg #[.int .i64 r1, .int .i64 r2]) ∧ Below w.heap.size w w' := by
  have hu23 := Tryd.underlying23
  have HB := Aside0.mk (Below.refl w.heap.size w)
  have H : (some (a0, 1)) = some (r1, r2) := h
  clear h
  simp only [Option.some.injEq, Prod.mk.injEq] at H
  obtain ⟨rfl, rfl⟩ := H
  go_enter Tryd.func50, Tryd.ntmps50
  go_wp2_with (first | ((with_reducible refine gd 2 rfl ?_); refine bx_ 2 23 #[.int .i64 0, .int .i64 0] rfl rfl ?_; intro gb379 hg w2 BK379 hb; have GE379 := bz HB hg; replace HB := bs HB hb; clear hb hg; have hcz3 := X.k2 BK379))
  refine bodyPost_ret (results_cell_row rfl _ _ gb379 23 #[.int .i64 a0, .int .i64 1] (0, 0) _ rfl (br_ BK379) Tryd.underlying23 rfl (by kernel_rfl)) rfl ?_
  exact ⟨ae, bf HB⟩

/-! ### frac_nought: function 80 -/
theorem frac_nought.calls  (r1 : Int) (r2 : Int) (w : World) (h : frac_nought.f  = some (r1, r2)) :
    Calls Tryd.prog 80 #[] w fun e w' => e = .returned (.agg #[.int .i64 r1, .int .i64 r2]) ∧ Below w.heap.size w w' := by
  have hu23 := Tryd.underlying23
  have HB := Aside0.mk (Below.refl w.heap.size w)
  have H : (some (0, 1)) = some (r1, r2) := h
  clear h
  simp only [Option.some.injEq, Prod.mk.injEq] at H
  obtain ⟨rfl, rfl⟩ := H
  go_enter Tryd.func80, Tryd.ntmps80
  go_wp2_with (first | ((with_reducible refine gd 0 rfl ?_); refine bx_ 0 23 #[.int .i64 0, .int .i64 0] rfl rfl ?_; intro gb380 hg w1 BK380 hb; have GE380 := bz HB hg; replace HB := bs HB hb; clear hb hg; have hcz2 := X.k2 BK380))
  refine bodyPost_ret (results_cell_row rfl _ _ gb380 23 #[.int .i64 0, .int .i64 1] (0, 0) _ rfl (br_ BK380) Tryd.underlying23 rfl (by kernel_rfl)) rfl ?_
  exact ⟨ae, bf HB⟩

/-! ### frac_norm: function 68 -/
theorem frac_norm.calls (k : Nat) (a0_0 : Int) (a0_1 : Int) (r1 : Int) (r2 : Int) (w : World) (h : frac_norm.f k a0_0 a0_1 = some (r1, r2)) (hT : TabOK w) :
    Calls Tryd.prog 68 #[.agg #[.int .i64 a0_0, .int .i64 a0_1]] w fun e w' => e = .returned (.agg #[.int .i64 r1, .int .i64 r2]) ∧ Below w.heap.size w w' := by
  have GT := Aside0.mk hT
  clear hT
  have hu23 := Tryd.underlying23
  have HB := Aside0.mk (Below.refl w.heap.size w)
  have H : ((frac_Right.f k a0_0 a0_1).bind fun t383 => (if t383 = true then (some (a0_0, a0_1)) else ((frac_nought.f).bind fun bt384 => (some (bt384.1, bt384.2))))) = some (r1, r2) := h
  clear h
  replace H := bi_ H; obtain ⟨t383, A2, H⟩ := H
  (try dsimp only at H)
  by_cases c3 : t383 = true
  · subst c3
    have H1 : (some (a0_0, a0_1)) = some (r1, r2) := by rw [if_pos rfl] at H; exact H
    clear H
    have H := H1
    clear H1
    simp only [Option.some.injEq, Prod.mk.injEq] at H
    obtain ⟨rfl, rfl⟩ := H
    go_enter Tryd.func68, Tryd.ntmps68
    go_wp2_with (first | ((with_reducible refine gd 1 rfl ?_); refine bx_ 1 23 #[.int .i64 a0_0, .int .i64 a0_1] rfl rfl ?_; intro gb381 hg w4 BK381 hb; have GE381 := bz HB hg; replace HB := bs HB hb; clear hb hg) | ((with_reducible refine gd 2 rfl ?_); refine bx_ 2 23 #[.int .i64 0, .int .i64 0] rfl rfl ?_; intro gb382 hg w5 BK382 hb; have GE382 := bz HB hg; have ⟨NB381_382, NB382_381⟩ := nb BK381 hg; replace BK381 := bb BK381 hb; replace HB := bs HB hb; clear hb hg; have hnb6 := nn NB381_382; have hcz7 := X.k2 BK381) | ((with_reducible refine gc 7 rfl ?_); refine gm_ (some 4) rfl rfl Tryd.func7 (frac_Right.calls _ _ _ _ _ A2.out (tt GT)) ag ?_; intro w8 hb; replace BK381 := bb BK381 hb; replace BK382 := bb BK382 hb; replace HB := bs HB hb; (try clear hb); have hcz9 := X.k2 BK381; have hcz10 := X.k2 BK382))
    refine bodyPost_ret (results_cell_row rfl _ _ gb382 23 #[.int .i64 a0_0, .int .i64 a0_1] (0, 0) _ rfl (br_ BK382) Tryd.underlying23 rfl (by kernel_rfl)) rfl ?_
    exact ⟨ae, bf HB⟩
  · replace c3 := Bool.eq_false_iff.mpr c3
    subst c3
    have H1 : ((frac_nought.f).bind fun bt384 => (some (bt384.1, bt384.2))) = some (r1, r2) := by rw [if_neg (show ¬ (false = true) by decide)] at H; exact H
    clear H
    have H := H1
    clear H1
    replace H := bi_ H; obtain ⟨⟨t384, t385⟩, A11, H⟩ := H
    (try dsimp only at H)
    simp only [Option.some.injEq, Prod.mk.injEq] at H
    obtain ⟨rfl, rfl⟩ := H
    go_enter Tryd.func68, Tryd.ntmps68
    go_wp2_with (first | ((with_reducible refine gd 1 rfl ?_); refine bx_ 1 23 #[.int .i64 a0_0, .int .i64 a0_1] rfl rfl ?_; intro gb381 hg w12 BK381 hb; have GE381 := bz HB hg; replace HB := bs HB hb; clear hb hg) | ((with_reducible refine gd 2 rfl ?_); refine bx_ 2 23 #[.int .i64 0, .int .i64 0] rfl rfl ?_; intro gb382 hg w13 BK382 hb; have GE382 := bz HB hg; have ⟨NB381_382, NB382_381⟩ := nb BK381 hg; replace BK381 := bb BK381 hb; replace HB := bs HB hb; clear hb hg; have hnb14 := nn NB381_382; have hcz15 := X.k2 BK381) | ((with_reducible refine gc 7 rfl ?_); refine gm_ (some 4) rfl rfl Tryd.func7 (frac_Right.calls _ _ _ _ _ A2.out (tt GT)) ag ?_; intro w16 hb; replace BK382 := bb BK382 hb; replace HB := bs HB hb; (try clear hb)) | ((with_reducible refine gc 80 rfl ?_); refine gm_ (some 6) rfl rfl Tryd.func80 (frac_nought.calls _ _ _ A11.out) ag ?_; intro w17 hb; replace BK382 := bb BK382 hb; replace HB := bs HB hb; (try clear hb); have hcz18 := X.k2 BK382))
    refine bodyPost_ret (results_cell_row rfl _ _ gb382 23 #[.int .i64 t384, .int .i64 t385] (0, 0) _ rfl (br_ BK382) Tryd.underlying23 rfl (by kernel_rfl)) rfl ?_
    exact ⟨ae, bf HB⟩

/-! ### frac_multiply: function 84 -/
theorem frac_multiply.calls (a0 : Int) (a1 : Int) (r1 : Int) (r2 : Int) (w : World) (h : frac_multiply.f a0 a1 = some (r1, r2)) :
    Calls Tryd.prog 84 #[.int .u64 a0, .int .u64 a1] w fun e w' => e = .returned (.agg #[.int .u64 r1, .int .u64 r2]) ∧ Below w.heap.size w w' := by
  have hu102 := Tryd.underlying102
  have HB := Aside0.mk (Below.refl w.heap.size w)
  have H : ((bits_Mul64.f a0 a1).bind fun bt387 => (some (bt387.1, bt387.2))) = some (r1, r2) := h
  clear h
  replace H := bi_ H; obtain ⟨⟨t387, t388⟩, A3, H⟩ := H
  (try dsimp only at H)
  simp only [Option.some.injEq, Prod.mk.injEq] at H
  obtain ⟨rfl, rfl⟩ := H
  go_enter Tryd.func84, Tryd.ntmps84
  go_wp2_with (first | ((with_reducible refine gd 4 rfl ?_); refine bx_ 4 102 #[.int .u64 0, .int .u64 0] rfl rfl ?_; intro gb386 hg w4 BK386 hb; have GE386 := bz HB hg; replace HB := bs HB hb; clear hb hg) | ((with_reducible refine gc 33 rfl ?_); refine gm_ (some 10) rfl rfl Tryd.func33 (bits_Mul64.calls _ _ _ _ _ A3.out) ag ?_; rintro w' ⟨nd, rfl⟩; (try (rw [drewN_self w4]; generalize hq_ : World.drewN w4 _ = w4; have n0_ : Aside0 (w4.heap[gb386]? = some (.cells #[.int .u64 0, .int .u64 0] 102 (0, 0))) := ⟨by rw [← hq_]; exact (bx BK386)⟩; have n1_ : Aside0 (Below w.heap.size w w4) := ⟨by rw [← hq_]; exact (bf HB)⟩; clear BK386 HB hq_; have BK386 := n0_; have HB := n1_; clear n0_ n1_)); have hcz5 := X.k2 BK386))
  refine bodyPost_ret (results_cell_row rfl _ _ gb386 102 #[.int .u64 t387, .int .u64 t388] (0, 0) _ rfl (br_ BK386) Tryd.underlying102 rfl (by kernel_rfl)) rfl ?_
  exact ⟨ae, bf HB⟩

/-! ### frac_signed_times: function 71 -/
def frac_signed_times.T1 : Bool × List (List Nat × List Nat) := (true, [([], []), ([0], [0]), ([], []), ([2], [2]), ([1, 3], [1, 3]), ([], []), ([5], [5]), ([6], [6]), ([], []), ([8], [8]), ([9], [9]), ([7, 10], [7, 10]), ([4, 11], [4, 11]), ([12, 11, 0, 1, 2, 3, 4, 5, 6, 7, 8, 9, 10, 11, 12], [12])])
def frac_signed_times.B1 : List Nat := [0, 1, 0, 4, 15, 0, 32, 96, 0, 256, 768, 2016, 4095, 8191]
theorem frac_signed_times.tab1 : rtab .any (opsOf Tryd.f71 1) = frac_signed_times.T1 := by kernel_rfl
theorem frac_signed_times.bits1 : waitsOk frac_signed_times.T1.2 frac_signed_times.B1 = true := by kernel_rfl
theorem frac_signed_times.calls (a0_0 : Bool) (a0_1 : Int) (a0_2 : Int) (a1_0 : Bool) (a1_1 : Int) (a1_2 : Int) (r1 : Bool) (r2 : Int) (r3 : Int) (w : World) (h : frac_signed_times.f a0_0 a0_1 a0_2 a1_0 a1_1 a1_2 = some (r1, r2, r3)) :
    Calls Tryd.prog 71 #[.agg #[.bool a0_0, .int .u64 a0_1, .int .u64 a0_2], .agg #[.bool a1_0, .int .u64 a1_1, .int .u64 a1_2]] w fun e w' => e = .returned (.agg #[.bool r1, .int .u64 r2, .int .u64 r3]) ∧ Below w.heap.size w w' := by
  have hu104 := Tryd.underlying104
  have HB := Aside0.mk (Below.refl w.heap.size w)
  have H : ((frac_multiply.f a0_2 a1_2).bind fun bt392 => (some ((a0_0 != a1_0), bt392.1, bt392.2))) = some (r1, r2, r3) := h
  clear h
  replace H := bi_ H; obtain ⟨⟨t392, t393⟩, A3, H⟩ := H
  (try dsimp only at H)
  simp only [Option.some.injEq, Prod.mk.injEq] at H
  obtain ⟨rfl, rfl, rfl⟩ := H
  go_enter Tryd.func71, Tryd.ntmps71
  try go_wp2_with (first | ((with_reducible refine gd 2 rfl ?_); refine bx_ 2 104 #[.bool a0_0, .int .u64 a0_1, .int .u64 a0_2] rfl rfl ?_; intro gb389 hg w4 BK389 hb; have GE389 := bz HB hg; replace HB := bs HB hb; clear hb hg) | ((with_reducible refine gd 3 rfl ?_); refine bx_ 3 104 #[.bool a1_0, .int .u64 a1_1, .int .u64 a1_2] rfl rfl ?_; intro gb390 hg w5 BK390 hb; have GE390 := bz HB hg; have ⟨NB389_390, NB390_389⟩ := nb BK389 hg; replace BK389 := bb BK389 hb; replace HB := bs HB hb; clear hb hg) | ((with_reducible refine gd 4 rfl ?_); refine bx_ 4 104 #[.bool false, .int .u64 0, .int .u64 0] rfl rfl ?_; intro gb391 hg w6 BK391 hb; have GE391 := bz HB hg; have ⟨NB389_391, NB391_389⟩ := nb BK389 hg; have ⟨NB390_391, NB391_390⟩ := nb BK390 hg; replace BK389 := bb BK389 hb; replace BK390 := bb BK390 hb; replace HB := bs HB hb; clear hb hg))
  replace BK389 := Aside0.mk (blk_drew BK389.out)
  replace BK390 := Aside0.mk (blk_drew BK390.out)
  replace BK391 := Aside0.mk (blk_drew BK391.out)
  replace HB := Aside0.mk (below_drew1 HB.out)
  refine start_ (n := 14) (S := fun w' => c_ w' gb389 0 (.bool a0_0) ∧ c_ w' gb389 1 (.int .u64 a0_1) ∧ c_ w' gb389 2 (.int .u64 a0_2) ∧ c_ w' gb390 0 (.bool a1_0) ∧ c_ w' gb390 1 (.int .u64 a1_1) ∧ c_ w' gb390 2 (.int .u64 a1_2)) (ds := []) (m_ 14 0) (by kernel_rfl) rfl rfl ⟨ct BK389 0, ct BK389 1, ct BK389 2, ct BK390 0, ct BK390 1, ct BK390 2⟩ (fun hHeld => ?_); refine with_tabW frac_signed_times.tab1 frac_signed_times.bits1 (fun HT_ HW_ => ?_)
  generalize w6.drew = w7 at BK389 BK390 BK391 HB hHeld ⊢
  refine pu_ 0 (some 5) (m_ 14 1) rfl rfl (ao HT_) ?_
  refine pu_ 2 (some 7) (m_ 14 5) rfl rfl (ao HT_) ?_
  refine pu_ 5 (some 10) (m_ 14 37) rfl rfl (ao HT_) ?_
  refine pu_ 6 (some 11) (m_ 14 101) rfl rfl (ao HT_) ?_
  refine pu_ 8 (some 13) (m_ 14 357) rfl rfl (ao HT_) ?_
  refine pu_ 9 (some 14) (m_ 14 869) rfl rfl (ao HT_) ?_
  refine tk_ 1 (some 6) (m_ 14 871) rfl rfl (tw HT_ HW_) hHeld ?_
  refine tk_ 3 (some 8) (m_ 14 879) rfl rfl (tw HT_ HW_) hHeld ?_
  refine pu_ 4 (some 9) (m_ 14 895) rfl rfl (ao HT_) ?_
  refine tk_ 7 (some 12) (m_ 14 1023) rfl rfl (tw HT_ HW_) hHeld ?_
  refine tk_ 10 (some 15) (m_ 14 2047) rfl rfl (tw HT_ HW_) hHeld ?_
  refine o1_ 11 (some 16) (m_ 14 4095) rfl rfl (oo HT_) (fun K hK => ?_)
  refine gs_ rfl Tryd.func84 (frac_multiply.calls _ _ _ _ _ A3.out) ag ?_
  intro w8 hb
  replace BK389 := bb BK389 hb
  replace BK390 := bb BK390 hb
  replace BK391 := bb BK391 hb
  replace HB := bs HB hb
  (try clear hb)
  refine hK.out _ _ ⟨ct BK389 0, ct BK389 1, ct BK389 2, ct BK390 0, ct BK390 1, ct BK390 2⟩ (fun hHeld => ?_)
  clear hK K
  refine nr_ (some 16) ?_
  refine pu_ 12 (some 17) (m_ 14 8191) rfl rfl (ao HT_) ?_
  refine o1_ 13 (none) (m_ 14 16383) rfl rfl (oo HT_) (fun K hK => ?_)
  have hs9 : c_ w8 gb391 0 (.bool false) := ct BK391 0
  have hfs9 := blk_frozen BK391.out 0
  have hns9_0 := NB389_391.out
  have hns9_1 := NB390_391.out
  have hms9_0 := NB391_389.out
  have hms9_1 := NB391_390.out
  have hs10 : c_ w8 gb391 1 (.int .u64 0) := ct BK391 1
  have hfs10 := blk_frozen BK391.out 1
  have hns10_0 := NB389_391.out
  have hns10_1 := NB390_391.out
  have hms10_0 := NB391_389.out
  have hms10_1 := NB391_390.out
  have hs11 : c_ w8 gb391 2 (.int .u64 0) := ct BK391 2
  have hfs11 := blk_frozen BK391.out 2
  have hns11_0 := NB389_391.out
  have hns11_1 := NB390_391.out
  have hms11_0 := NB391_389.out
  have hms11_1 := NB391_390.out
  refine skip_ (w1 := ?_) (by rfl) rfl ?_ ?_
  rotate_left
  · go_simp
    rfl
  refine hK.out _ _ ⟨((cell_far (p := ⟨gb391, _, none⟩) NB389_391.out _).trans (((cell_far (p := ⟨gb391, _, none⟩) NB389_391.out _).trans (((cell_far (p := ⟨gb391, _, none⟩) NB389_391.out _).trans (hHeld.1)))))), ((cell_far (p := ⟨gb391, _, none⟩) NB389_391.out _).trans (((cell_far (p := ⟨gb391, _, none⟩) NB389_391.out _).trans (((cell_far (p := ⟨gb391, _, none⟩) NB389_391.out _).trans (hHeld.2.1)))))), ((cell_far (p := ⟨gb391, _, none⟩) NB389_391.out _).trans (((cell_far (p := ⟨gb391, _, none⟩) NB389_391.out _).trans (((cell_far (p := ⟨gb391, _, none⟩) NB389_391.out _).trans (hHeld.2.2.1)))))), ((cell_far (p := ⟨gb391, _, none⟩) NB390_391.out _).trans (((cell_far (p := ⟨gb391, _, none⟩) NB390_391.out _).trans (((cell_far (p := ⟨gb391, _, none⟩) NB390_391.out _).trans (hHeld.2.2.2.1)))))), ((cell_far (p := ⟨gb391, _, none⟩) NB390_391.out _).trans (((cell_far (p := ⟨gb391, _, none⟩) NB390_391.out _).trans (((cell_far (p := ⟨gb391, _, none⟩) NB390_391.out _).trans (hHeld.2.2.2.2.1)))))), ((cell_far (p := ⟨gb391, _, none⟩) NB390_391.out _).trans (((cell_far (p := ⟨gb391, _, none⟩) NB390_391.out _).trans (((cell_far (p := ⟨gb391, _, none⟩) NB390_391.out _).trans (hHeld.2.2.2.2.2))))))⟩ (fun hHeld => ?_)
  clear hK K
  refine done_ (done_of HT_.out (by kernel_rfl)) ?_
  try go_wp2
  refine bodyPost_ret (results_cell_row rfl _ _ gb391 104 #[.bool (a0_0 != a1_0), .int .u64 t392, .int .u64 t393] (0, 0) _ rfl (br_ BK391) Tryd.underlying104 rfl (by kernel_rfl)) rfl ?_
  exact ⟨ae, bf HB⟩

/-! ### frac_Mul: function 66 -/
def frac_Mul.T2 : Bool × List (List Nat × List Nat) := (true, [([], []), ([0], [0]), ([1], [1]), ([], []), ([3], [3]), ([4, 2], [4]), ([2, 5, 5], [2, 5]), ([], []), ([7], [7]), ([8, 6], [8]), ([], []), ([10], [10]), ([11, 9], [11]), ([9, 12, 12], [9, 12]), ([6, 13, 13], [6, 13]), ([14], [14]), ([14], [14]), ([15, 14, 0, 1, 2, 3, 4, 5, 6, 7, 8, 9, 10, 11, 12, 13, 14, 15, 16], [15]), ([16, 17, 0, 1, 2, 3, 4, 5, 6, 7, 8, 9, 10, 11, 12, 13, 14, 15, 16, 17], [16])])
def frac_Mul.B2 : List Nat := [0, 1, 3, 0, 8, 31, 63, 0, 128, 511, 0, 1024, 4095, 8191, 16383, 32767, 32767, 131071, 262143]
theorem frac_Mul.tab2 : rtab .any (opsOf Tryd.f66 2) = frac_Mul.T2 := by kernel_rfl
theorem frac_Mul.bits2 : waitsOk frac_Mul.T2.2 frac_Mul.B2 = true := by kernel_rfl
theorem frac_Mul.calls (k : Nat) (a0_0 : Int) (a0_1 : Int) (a1_0 : Int) (a1_1 : Int) (r1 : Int) (r2 : Int) (r3 : Int) (w : World) (h : frac_Mul.f k a0_0 a0_1 a1_0 a1_1 = some (r1, r2, r3)) (hT : TabOK w) :
    Calls Tryd.prog 66 #[.agg #[.int .i64 a0_0, .int .i64 a0_1], .agg #[.int .i64 a1_0, .int .i64 a1_1]] w fun e w' => e = .returned (.tuple #[.agg #[.int .i64 r1, .int .i64 r2], .int .i64 r3]) ∧ Below w.heap.size w w' := by
  have GT := Aside0.mk hT
  clear hT
  have hu23 := Tryd.underlying23
  have HB := Aside0.mk (Below.refl w.heap.size w)
  have H : ((frac_norm.f k a0_0 a0_1).bind fun bt397 => ((frac_norm.f k a1_0 a1_1).bind fun bt399 => ((frac_sized.f bt397.1).bind fun bt401 => ((frac_sized.f bt399.1).bind fun bt404 => ((frac_signed_times.f bt401.1 bt401.2.1 bt401.2.2 bt404.1 bt404.2.1 bt404.2.2).bind fun bt407 => ((frac_sized.f bt397.2).bind fun bt410 => ((frac_sized.f bt399.2).bind fun bt413 => ((frac_signed_times.f bt410.1 bt410.2.1 bt410.2.2 bt413.1 bt413.2.1 bt413.2.2).bind fun bt416 => ((frac_reduced.f k bt407.1 bt407.2.1 bt407.2.2 bt416.1 bt416.2.1 bt416.2.2).bind fun bt419 => (some (bt419.1, bt419.2.1, bt419.2.2))))))))))) = some (r1, r2, r3) := h
  clear h
  replace H := bi_ H; obtain ⟨⟨t397, t398⟩, A3, H⟩ := H
  (try dsimp only at H)
  replace H := bi_ H; obtain ⟨⟨t399, t400⟩, A4, H⟩ := H
  (try dsimp only at H)
  replace H := bi_ H; obtain ⟨⟨t401, t402, t403⟩, A5, H⟩ := H
  (try dsimp only at H)
  replace H := bi_ H; obtain ⟨⟨t404, t405, t406⟩, A6, H⟩ := H
  (try dsimp only at H)
  replace H := bi_ H; obtain ⟨⟨t407, t408, t409⟩, A7, H⟩ := H
  (try dsimp only at H)
  replace H := bi_ H; obtain ⟨⟨t410, t411, t412⟩, A8, H⟩ := H
  (try dsimp only at H)
  replace H := bi_ H; obtain ⟨⟨t413, t414, t415⟩, A9, H⟩ := H
  (try dsimp only at H)
  replace H := bi_ H; obtain ⟨⟨t416, t417, t418⟩, A10, H⟩ := H
  (try dsimp only at H)
  replace H := bi_ H; obtain ⟨⟨t419, t420, t421⟩, A11, H⟩ := H
  (try dsimp only at H)
  simp only [Option.some.injEq, Prod.mk.injEq] at H
  obtain ⟨rfl, rfl, rfl⟩ := H
  go_enter Tryd.func66, Tryd.ntmps66
  try go_wp2_with (first | ((with_reducible refine gd 2 rfl ?_); refine bx_ 2 23 #[.int .i64 a0_0, .int .i64 a0_1] rfl rfl ?_; intro gb394 hg w12 BK394 hb; have GE394 := bz HB hg; replace HB := bs HB hb; clear hb hg) | ((with_reducible refine gd 3 rfl ?_); refine bx_ 3 23 #[.int .i64 a1_0, .int .i64 a1_1] rfl rfl ?_; intro gb395 hg w13 BK395 hb; have GE395 := bz HB hg; have ⟨NB394_395, NB395_394⟩ := nb BK394 hg; replace BK394 := bb BK394 hb; replace HB := bs HB hb; clear hb hg) | ((with_reducible refine gd 4 rfl ?_); refine bx_ 4 23 #[.int .i64 0, .int .i64 0] rfl rfl ?_; intro gb396 hg w14 BK396 hb; have GE396 := bz HB hg; have ⟨NB394_396, NB396_394⟩ := nb BK394 hg; have ⟨NB395_396, NB396_395⟩ := nb BK395 hg; replace BK394 := bb BK394 hb; replace BK395 := bb BK395 hb; replace HB := bs HB hb; clear hb hg))
  replace BK394 := Aside0.mk (blk_drew BK394.out)
  replace BK395 := Aside0.mk (blk_drew BK395.out)
  replace BK396 := Aside0.mk (blk_drew BK396.out)
  replace HB := Aside0.mk (below_drew1 HB.out)
  refine start_ (n := 6) (S := fun w' => c_ w' gb394 0 (.int .i64 a0_0) ∧ c_ w' gb394 1 (.int .i64 a0_1) ∧ c_ w' gb395 0 (.int .i64 a1_0) ∧ c_ w' gb395 1 (.int .i64 a1_1)) (ds := [4, 5]) (m_ 6 0) (by kernel_rfl) rfl rfl ⟨ct BK394 0, ct BK394 1, ct BK395 0, ct BK395 1⟩ (fun hHeld => ?_)
  generalize w14.drew = w15 at BK394 BK395 BK396 HB hHeld ⊢
  refine tk_ 0 (some 6) (m_ 6 1) rfl rfl (by kernel_rfl) hHeld ?_
  refine tk_ 2 (some 8) (m_ 6 5) rfl rfl (by kernel_rfl) hHeld ?_
  refine o1_ 1 (some 7) (m_ 6 7) rfl rfl (by kernel_rfl) (fun K hK => ?_)
  refine gs_ rfl Tryd.func68 (frac_norm.calls _ _ _ _ _ _ A3.out (tt GT)) ag ?_
  intro w16 hb
  replace BK394 := bb BK394 hb
  replace BK395 := bb BK395 hb
  replace BK396 := bb BK396 hb
  replace HB := bs HB hb
  (try clear hb)
  refine hK.out _ _ ⟨ct BK394 0, ct BK394 1, ct BK395 0, ct BK395 1⟩ (fun hHeld => ?_)
  clear hK K
  refine nr_ (some 7) ?_
  refine o1_ 3 (some 9) (m_ 6 15) rfl rfl (by kernel_rfl) (fun K hK => ?_)
  refine gs_ rfl Tryd.func68 (frac_norm.calls _ _ _ _ _ _ A4.out (tt GT)) ag ?_
  intro w17 hb
  replace BK394 := bb BK394 hb
  replace BK395 := bb BK395 hb
  replace BK396 := bb BK396 hb
  replace HB := bs HB hb
  (try clear hb)
  refine hK.out _ _ ⟨ct BK394 0, ct BK394 1, ct BK395 0, ct BK395 1⟩ (fun hHeld => ?_)
  clear hK K
  refine nr_ (some 9) ?_
  refine last_ (i := 4) (N := none) (m_ 6 31) rfl rfl (by kernel_rfl) (by decide) (fun K hK => ?_)
  have hs18 : c_ w17 gb394 0 (.int .i64 a0_0) := ct BK394 0
  have hfs18 := blk_frozen BK394.out 0
  have hns18_1 := NB395_394.out
  have hns18_2 := NB396_394.out
  have hms18_1 := NB394_395.out
  have hms18_2 := NB394_396.out
  have hs19 : c_ w17 gb394 1 (.int .i64 a0_1) := ct BK394 1
  have hfs19 := blk_frozen BK394.out 1
  have hns19_1 := NB395_394.out
  have hns19_2 := NB396_394.out
  have hms19_1 := NB394_395.out
  have hms19_2 := NB394_396.out
  refine skip_ (w1 := ?_) (by rfl) rfl ?_ ?_
  rotate_left
  · go_simp
    rfl
  refine hK.out _ _ ?_
  clear hK K
  refine last_ (i := 5) (N := none) (m_ 6 63) rfl rfl (by kernel_rfl) (by decide) (fun K hK => ?_)
  have hs20 : c_ w17 gb395 0 (.int .i64 a1_0) := ct BK395 0
  have hfs20 := blk_frozen BK395.out 0
  have hns20_0 := NB394_395.out
  have hns20_2 := NB396_395.out
  have hms20_0 := NB395_394.out
  have hms20_2 := NB395_396.out
  have hs21 : c_ w17 gb395 1 (.int .i64 a1_1) := ct BK395 1
  have hfs21 := blk_frozen BK395.out 1
  have hns21_0 := NB394_395.out
  have hns21_2 := NB396_395.out
  have hms21_0 := NB395_394.out
  have hms21_2 := NB395_396.out
  refine skip_ (w1 := ?_) (by rfl) rfl ?_ ?_
  rotate_left
  · go_simp
    rfl
  refine hK.out _ _ ?_
  clear hK K
  refine done_ (by kernel_rfl) ?_
  try go_wp2
  have n0_ : Aside0 (((((w17.setCell ⟨gb394, 0, none⟩ (.int .i64 t397)).setCell ⟨gb394, 1, none⟩ (.int .i64 t398)).setCell ⟨gb395, 0, none⟩ (.int .i64 t399)).setCell ⟨gb395, 1, none⟩ (.int .i64 t400)).heap[gb394]? = some (.cells #[.int .i64 t397, .int .i64 t398] 23 (0, 0))) := bq_ BK394
  have n1_ : Aside0 (((((w17.setCell ⟨gb394, 0, none⟩ (.int .i64 t397)).setCell ⟨gb394, 1, none⟩ (.int .i64 t398)).setCell ⟨gb395, 0, none⟩ (.int .i64 t399)).setCell ⟨gb395, 1, none⟩ (.int .i64 t400)).heap[gb395]? = some (.cells #[.int .i64 t399, .int .i64 t400] 23 (0, 0))) := bq_ BK395
  have n2_ : Aside0 (((((w17.setCell ⟨gb394, 0, none⟩ (.int .i64 t397)).setCell ⟨gb394, 1, none⟩ (.int .i64 t398)).setCell ⟨gb395, 0, none⟩ (.int .i64 t399)).setCell ⟨gb395, 1, none⟩ (.int .i64 t400)).heap[gb396]? = some (.cells #[.int .i64 0, .int .i64 0] 23 (0, 0))) := bu_ BK396
  have n3_ : Aside0 (Below w.heap.size w ((((w17.setCell ⟨gb394, 0, none⟩ (.int .i64 t397)).setCell ⟨gb394, 1, none⟩ (.int .i64 t398)).setCell ⟨gb395, 0, none⟩ (.int .i64 t399)).setCell ⟨gb395, 1, none⟩ (.int .i64 t400))) := ⟨bf HB⟩
  (try clear BK394); (try clear BK395); (try clear BK396); (try clear HB)
  generalize ((((w17.setCell ⟨gb394, 0, none⟩ (.int .i64 t397)).setCell ⟨gb394, 1, none⟩ (.int .i64 t398)).setCell ⟨gb395, 0, none⟩ (.int .i64 t399)).setCell ⟨gb395, 1, none⟩ (.int .i64 t400)) = w22 at n0_ n1_ n2_ n3_ ⊢
  have BK394 := n0_
  have BK395 := n1_
  have BK396 := n2_
  have HB := n3_
  clear n0_ n1_ n2_ n3_
  replace BK394 := Aside0.mk (blk_drew BK394.out)
  replace BK395 := Aside0.mk (blk_drew BK395.out)
  replace BK396 := Aside0.mk (blk_drew BK396.out)
  replace HB := Aside0.mk (below_drew1 HB.out)
  refine start_ (n := 19) (S := fun w' => c_ w' gb394 0 (.int .i64 t397) ∧ c_ w' gb394 1 (.int .i64 t398) ∧ c_ w' gb395 0 (.int .i64 t399) ∧ c_ w' gb395 1 (.int .i64 t400)) (ds := []) (m_ 19 0) (by kernel_rfl) rfl rfl ⟨ct BK394 0, ct BK394 1, ct BK395 0, ct BK395 1⟩ (fun hHeld => ?_); refine with_tabW frac_Mul.tab2 frac_Mul.bits2 (fun HT_ HW_ => ?_)
  generalize w22.drew = w23 at BK394 BK395 BK396 HB hHeld ⊢
  refine pu_ 0 (some 10) (m_ 19 1) rfl rfl (ao HT_) ?_
  refine pu_ 3 (some 13) (m_ 19 9) rfl rfl (ao HT_) ?_
  refine pu_ 7 (some 17) (m_ 19 137) rfl rfl (ao HT_) ?_
  refine pu_ 10 (some 20) (m_ 19 1161) rfl rfl (ao HT_) ?_
  refine tk_ 1 (some 11) (m_ 19 1163) rfl rfl (tw HT_ HW_) hHeld ?_
  refine tk_ 4 (some 14) (m_ 19 1179) rfl rfl (tw HT_ HW_) hHeld ?_
  refine tk_ 8 (some 18) (m_ 19 1435) rfl rfl (tw HT_ HW_) hHeld ?_
  refine tk_ 11 (some 21) (m_ 19 3483) rfl rfl (tw HT_ HW_) hHeld ?_
  refine o1_ 2 (some 12) (m_ 19 3487) rfl rfl (oo HT_) (fun K hK => ?_)
  refine gs_ rfl Tryd.func70 (frac_sized.calls _ _ _ _ _ A5.out) ag ?_
  intro w24 hb
  replace BK394 := bb BK394 hb
  replace BK395 := bb BK395 hb
  replace BK396 := bb BK396 hb
  replace HB := bs HB hb
  (try clear hb)
  refine hK.out _ _ ⟨ct BK394 0, ct BK394 1, ct BK395 0, ct BK395 1⟩ (fun hHeld => ?_)
  clear hK K
  refine nr_ (some 12) ?_
  refine o1_ 5 (some 15) (m_ 19 3519) rfl rfl (oo HT_) (fun K hK => ?_)
  refine gs_ rfl Tryd.func70 (frac_sized.calls _ _ _ _ _ A6.out) ag ?_
  intro w25 hb
  replace BK394 := bb BK394 hb
  replace BK395 := bb BK395 hb
  replace BK396 := bb BK396 hb
  replace HB := bs HB hb
  (try clear hb)
  refine hK.out _ _ ⟨ct BK394 0, ct BK394 1, ct BK395 0, ct BK395 1⟩ (fun hHeld => ?_)
  clear hK K
  refine nr_ (some 15) ?_
  refine o1_ 6 (some 16) (m_ 19 3583) rfl rfl (oo HT_) (fun K hK => ?_)
  refine gs_ rfl Tryd.func71 (frac_signed_times.calls _ _ _ _ _ _ _ _ _ _ A7.out) ag ?_
  intro w26 hb
  replace BK394 := bb BK394 hb
  replace BK395 := bb BK395 hb
  replace BK396 := bb BK396 hb
  replace HB := bs HB hb
  (try clear hb)
  refine hK.out _ _ ⟨ct BK394 0, ct BK394 1, ct BK395 0, ct BK395 1⟩ (fun hHeld => ?_)
  clear hK K
  refine nr_ (some 16) ?_
  refine o1_ 9 (some 19) (m_ 19 4095) rfl rfl (oo HT_) (fun K hK => ?_)
  refine gs_ rfl Tryd.func70 (frac_sized.calls _ _ _ _ _ A8.out) ag ?_
  intro w27 hb
  replace BK394 := bb BK394 hb
  replace BK395 := bb BK395 hb
  replace BK396 := bb BK396 hb
  replace HB := bs HB hb
  (try clear hb)
  refine hK.out _ _ ⟨ct BK394 0, ct BK394 1, ct BK395 0, ct BK395 1⟩ (fun hHeld => ?_)
  clear hK K
  refine nr_ (some 19) ?_
  refine o1_ 12 (some 22) (m_ 19 8191) rfl rfl (oo HT_) (fun K hK => ?_)
  refine gs_ rfl Tryd.func70 (frac_sized.calls _ _ _ _ _ A9.out) ag ?_
  intro w28 hb
  replace BK394 := bb BK394 hb
  replace BK395 := bb BK395 hb
  replace BK396 := bb BK396 hb
  replace HB := bs HB hb
  (try clear hb)
  refine hK.out _ _ ⟨ct BK394 0, ct BK394 1, ct BK395 0, ct BK395 1⟩ (fun hHeld => ?_)
  clear hK K
  refine nr_ (some 22) ?_
  refine o1_ 13 (some 23) (m_ 19 16383) rfl rfl (oo HT_) (fun K hK => ?_)
  refine gs_ rfl Tryd.func71 (frac_signed_times.calls _ _ _ _ _ _ _ _ _ _ A10.out) ag ?_
  intro w29 hb
  replace BK394 := bb BK394 hb
  replace BK395 := bb BK395 hb
  replace BK396 := bb BK396 hb
  replace HB := bs HB hb
  (try clear hb)
  refine hK.out _ _ ⟨ct BK394 0, ct BK394 1, ct BK395 0, ct BK395 1⟩ (fun hHeld => ?_)
  clear hK K
  refine nr_ (some 23) ?_
  refine o1_ 14 (some 24) (m_ 19 32767) rfl rfl (oo HT_) (fun K hK => ?_)
  refine gs_ rfl Tryd.func69 (frac_reduced.calls _ _ _ _ _ _ _ _ _ _ _ A11.out (tt GT)) ag ?_
  intro w30 hb
  replace BK394 := bb BK394 hb
  replace BK395 := bb BK395 hb
  replace BK396 := bb BK396 hb
  replace HB := bs HB hb
  (try clear hb)
  refine hK.out _ _ ⟨ct BK394 0, ct BK394 1, ct BK395 0, ct BK395 1⟩ (fun hHeld => ?_)
  clear hK K
  refine nr_ (some 24) ?_
  refine pu_ 15 (some 25) (m_ 19 65535) rfl rfl (ao HT_) ?_
  refine pu_ 16 (some 26) (m_ 19 131071) rfl rfl (ao HT_) ?_
  refine o1_ 17 (none) (m_ 19 262143) rfl rfl (oo HT_) (fun K hK => ?_)
  have hs31 : c_ w30 gb396 0 (.int .i64 0) := ct BK396 0
  have hfs31 := blk_frozen BK396.out 0
  have hns31_0 := NB394_396.out
  have hns31_1 := NB395_396.out
  have hms31_0 := NB396_394.out
  have hms31_1 := NB396_395.out
  have hs32 : c_ w30 gb396 1 (.int .i64 0) := ct BK396 1
  have hfs32 := blk_frozen BK396.out 1
  have hns32_0 := NB394_396.out
  have hns32_1 := NB395_396.out
  have hms32_0 := NB396_394.out
  have hms32_1 := NB396_395.out
  refine skip_ (w1 := ?_) (by rfl) rfl ?_ ?_
  rotate_left
  · go_simp
    rfl
  refine hK.out _ _ ⟨((cell_far (p := ⟨gb396, _, none⟩) NB394_396.out _).trans (((cell_far (p := ⟨gb396, _, none⟩) NB394_396.out _).trans (hHeld.1)))), ((cell_far (p := ⟨gb396, _, none⟩) NB394_396.out _).trans (((cell_far (p := ⟨gb396, _, none⟩) NB394_396.out _).trans (hHeld.2.1)))), ((cell_far (p := ⟨gb396, _, none⟩) NB395_396.out _).trans (((cell_far (p := ⟨gb396, _, none⟩) NB395_396.out _).trans (hHeld.2.2.1)))), ((cell_far (p := ⟨gb396, _, none⟩) NB395_396.out _).trans (((cell_far (p := ⟨gb396, _, none⟩) NB395_396.out _).trans (hHeld.2.2.2))))⟩ (fun hHeld => ?_)
  clear hK K
  refine pu_ 18 (some 5) (m_ 19 524287) rfl rfl (ao HT_) ?_
  refine done_ (done_of HT_.out (by kernel_rfl)) ?_
  try go_wp2
  refine bodyPost_ret (results_ct rfl _ _ gb396 23 #[.int .i64 t419, .int .i64 t420] (0, 0) _ rfl (br_ BK396) Tryd.underlying23 rfl (by kernel_rfl)) rfl ?_
  exact ⟨ae, bf HB⟩

end Go.Proofs.YtnocpmngpekceaaDoor.X
