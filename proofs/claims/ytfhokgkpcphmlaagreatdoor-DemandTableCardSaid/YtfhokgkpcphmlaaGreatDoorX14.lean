/- Walks: each '.calls' says that the Go function comes to what its Lean function tells. Conditions: as each theorem's head says. -/
import Derived.Test.YtfhokgkpcphmlaaGreatDoorXD
import Derived.Test.YtfhokgkpcphmlaaGreatDoorX0
import Derived.Test.YtfhokgkpcphmlaaGreatDoorX13
namespace Go.Proofs.YtfhokgkpcphmlaaGreatDoor.X
open Go.RowKit Go.Proofs.YtfhokgkpcphmlaaGreatDoorW.PrintWords Go.Proofs.YtfhokgkpcphmlaaGreatDoorW.PrintLast Go.Proofs.YtfhokgkpcphmlaaGreatDoorW.PrintMore
attribute [local go_sem] max2_int min2_int max_two min_two max_three min_three max_four min_four   -- for this text's walks alone
set_option linter.unusedVariables false
set_option maxHeartbeats 8000000
set_option maxRecDepth 100000
set_option linter.unusedSimpArgs false

/-! ### carrefourref02_made: function 68 -/
theorem carrefourref02_made.calls (k : Nat) (a0 : Int) (a1 : Int) (a2 : Bool) (r1 : Int) (r2 : Int) (r3 : Int) (w : World) (h : carrefourref02_made.f k a0 a1 a2 = some (r1, r2, r3)) :
  Calls Tryz.prog 68 #[.int .u64 a0, .int .u64 a1, .bool a2] w fun e w' => e = .returned (.tuple #[.agg #[.int .i64 r1, .int .i64 r2], .int .i64 r3]) ∧ Below w.heap.size w w' := by
 have hu23 := Tryz.underlying23
 have HB := Aside0.mk (Below.refl w.heap.size w)
 have H : ((carrefourref01_Signed.f k a0 a2).bind fun bt350 => ((carrefourref01_Signed.f k a1 false).bind fun bt352 => (if bt350.2 = 0 then (if bt352.2 = 0 then (some (bt350.1, bt352.1, 0)) else (some (0, 0, 2))) else (some (0, 0, 2))))) = some (r1, r2, r3) := h
 clear h
 replace H := bi_ H; obtain ⟨⟨t350, t351⟩, A4, H⟩ := H
 (try dsimp only at H)
 replace H := bi_ H; obtain ⟨⟨t352, t353⟩, A5, H⟩ := H
 (try dsimp only at H)
 by_cases c6 : t351 = 0
 ·rw [if_pos c6] at H
  have c6b0 : (t351 == 0) = true := beq_iff_eq.mpr c6
  have c6b1 : (t351 != 0) = false := bne_eq_false_iff_eq.mpr c6
  clear c6
  by_cases c7 : t353 = 0
  ·rw [if_pos c7] at H
   have c7b0 : (t353 == 0) = true := beq_iff_eq.mpr c7
   have c7b1 : (t353 != 0) = false := bne_eq_false_iff_eq.mpr c7
   clear c7
   simp only [Option.some.injEq, Prod.mk.injEq] at H
   obtain ⟨rfl, rfl, rfl⟩ := H
   go_enter Tryz.func68, Tryz.ntmps68
   go_wp2_with (first | ((with_reducible refine gd 6 rfl ?_); refine bx_ 6 23 #[.int .i64 0, .int .i64 0] rfl rfl ?_; intro gb349 hg w8 BK349 hb; have GE349 := bz HB hg; replace HB := bs HB hb; clear hb hg) | ((with_reducible refine gc 93 rfl ?_); refine gm_ (some 15) rfl rfl Tryz.func93 (carrefourref01_Signed.calls _ _ _ _ _ _ A4.out) ag ?_; rintro w' ⟨nd, rfl⟩; (try (rw [drewN_self w8]; generalize hq_ : World.drewN w8 _ = w8; have n0_ : Aside0 (w8.heap[gb349]? = some (.cells #[.int .i64 0, .int .i64 0] 23 (0, 0))) := ⟨by rw [← hq_]; exact (bx BK349)⟩; have n1_ : Aside0 (Below w.heap.size w w8) := ⟨by rw [← hq_]; exact (bf HB)⟩; clear BK349 HB hq_; have BK349 := n0_; have HB := n1_; clear n0_ n1_))) | ((with_reducible refine gc 93 rfl ?_); refine gm_ (some 20) rfl rfl Tryz.func93 (carrefourref01_Signed.calls _ _ _ _ _ _ A5.out) ag ?_; rintro w' ⟨nd, rfl⟩; (try (rw [drewN_self w8]; generalize hq_ : World.drewN w8 _ = w8; have n0_ : Aside0 (w8.heap[gb349]? = some (.cells #[.int .i64 0, .int .i64 0] 23 (0, 0))) := ⟨by rw [← hq_]; exact (bx BK349)⟩; have n1_ : Aside0 (Below w.heap.size w w8) := ⟨by rw [← hq_]; exact (bf HB)⟩; clear BK349 HB hq_; have BK349 := n0_; have HB := n1_; clear n0_ n1_)); have hcz9 := X.k2 BK349))
   refine bodyPost_ret (results_ct rfl _ _ gb349 23 #[.int .i64 t350, .int .i64 t352] (0, 0) _ rfl (br_ BK349) Tryz.underlying23 rfl (by kernel_rfl)) rfl ?_
   exact ⟨ae, bf HB⟩
  ·rw [if_neg c7] at H
   have c7b0 : (t353 == 0) = false := beq_eq_false_iff_ne.mpr c7
   have c7b1 : (t353 != 0) = true := bne_iff_ne.mpr c7
   simp only [Option.some.injEq, Prod.mk.injEq] at H
   obtain ⟨rfl, rfl, rfl⟩ := H
   go_enter Tryz.func68, Tryz.ntmps68
   go_wp2_with (first | ((with_reducible refine gd 6 rfl ?_); refine bx_ 6 23 #[.int .i64 0, .int .i64 0] rfl rfl ?_; intro gb349 hg w10 BK349 hb; have GE349 := bz HB hg; replace HB := bs HB hb; clear hb hg) | ((with_reducible refine gc 93 rfl ?_); refine gm_ (some 15) rfl rfl Tryz.func93 (carrefourref01_Signed.calls _ _ _ _ _ _ A4.out) ag ?_; rintro w' ⟨nd, rfl⟩; (try (rw [drewN_self w10]; generalize hq_ : World.drewN w10 _ = w10; have n0_ : Aside0 (w10.heap[gb349]? = some (.cells #[.int .i64 0, .int .i64 0] 23 (0, 0))) := ⟨by rw [← hq_]; exact (bx BK349)⟩; have n1_ : Aside0 (Below w.heap.size w w10) := ⟨by rw [← hq_]; exact (bf HB)⟩; clear BK349 HB hq_; have BK349 := n0_; have HB := n1_; clear n0_ n1_))) | ((with_reducible refine gc 93 rfl ?_); refine gm_ (some 20) rfl rfl Tryz.func93 (carrefourref01_Signed.calls _ _ _ _ _ _ A5.out) ag ?_; rintro w' ⟨nd, rfl⟩; (try (rw [drewN_self w10]; generalize hq_ : World.drewN w10 _ = w10; have n0_ : Aside0 (w10.heap[gb349]? = some (.cells #[.int .i64 0, .int .i64 0] 23 (0, 0))) := ⟨by rw [← hq_]; exact (bx BK349)⟩; have n1_ : Aside0 (Below w.heap.size w w10) := ⟨by rw [← hq_]; exact (bf HB)⟩; clear BK349 HB hq_; have BK349 := n0_; have HB := n1_; clear n0_ n1_)); have hcz11 := X.k2 BK349))
   refine bodyPost_ret (results_ct rfl _ _ gb349 23 #[.int .i64 0, .int .i64 0] (0, 0) _ rfl (br_ BK349) Tryz.underlying23 rfl (by kernel_rfl)) rfl ?_
   exact ⟨ae, bf HB⟩
 ·rw [if_neg c6] at H
  have c6b0 : (t351 == 0) = false := beq_eq_false_iff_ne.mpr c6
  have c6b1 : (t351 != 0) = true := bne_iff_ne.mpr c6
  simp only [Option.some.injEq, Prod.mk.injEq] at H
  obtain ⟨rfl, rfl, rfl⟩ := H
  go_enter Tryz.func68, Tryz.ntmps68
  go_wp2_with (first | ((with_reducible refine gd 6 rfl ?_); refine bx_ 6 23 #[.int .i64 0, .int .i64 0] rfl rfl ?_; intro gb349 hg w12 BK349 hb; have GE349 := bz HB hg; replace HB := bs HB hb; clear hb hg) | ((with_reducible refine gc 93 rfl ?_); refine gm_ (some 15) rfl rfl Tryz.func93 (carrefourref01_Signed.calls _ _ _ _ _ _ A4.out) ag ?_; rintro w' ⟨nd, rfl⟩; (try (rw [drewN_self w12]; generalize hq_ : World.drewN w12 _ = w12; have n0_ : Aside0 (w12.heap[gb349]? = some (.cells #[.int .i64 0, .int .i64 0] 23 (0, 0))) := ⟨by rw [← hq_]; exact (bx BK349)⟩; have n1_ : Aside0 (Below w.heap.size w w12) := ⟨by rw [← hq_]; exact (bf HB)⟩; clear BK349 HB hq_; have BK349 := n0_; have HB := n1_; clear n0_ n1_))) | ((with_reducible refine gc 93 rfl ?_); refine gm_ (some 20) rfl rfl Tryz.func93 (carrefourref01_Signed.calls _ _ _ _ _ _ A5.out) ag ?_; rintro w' ⟨nd, rfl⟩; (try (rw [drewN_self w12]; generalize hq_ : World.drewN w12 _ = w12; have n0_ : Aside0 (w12.heap[gb349]? = some (.cells #[.int .i64 0, .int .i64 0] 23 (0, 0))) := ⟨by rw [← hq_]; exact (bx BK349)⟩; have n1_ : Aside0 (Below w.heap.size w w12) := ⟨by rw [← hq_]; exact (bf HB)⟩; clear BK349 HB hq_; have BK349 := n0_; have HB := n1_; clear n0_ n1_)); have hcz13 := X.k2 BK349))
  refine bodyPost_ret (results_ct rfl _ _ gb349 23 #[.int .i64 0, .int .i64 0] (0, 0) _ rfl (br_ BK349) Tryz.underlying23 rfl (by kernel_rfl)) rfl ?_
  exact ⟨ae, bf HB⟩

/-! ### carrefourref02_Of: function 39 -/
def carrefourref02_Of.T6 : Bool × List (List Nat × List Nat) := (true, [([], []), ([], []), ([0, 1], [0, 1]), ([], []), ([], []), ([3, 4], [3, 4]), ([], []), ([6], [6]), ([7], [7]), ([8], [8]), ([9, 8], [8, 9]), ([8], [8]), ([11, 8], [8, 11]), ([10, 12, 8], [8, 10, 12]), ([8, 13], [8, 13]), ([2, 5, 14, 8], [2, 5, 14]), ([15], [15]), ([15], [15]), ([16, 15, 0, 1, 2, 3, 4, 5, 6, 7, 8, 9, 10, 11, 12, 13, 14, 15, 16, 17], [16]), ([17, 18, 0, 1, 2, 3, 4, 5, 6, 7, 8, 9, 10, 11, 12, 13, 14, 15, 16, 17, 18], [17])])
def carrefourref02_Of.B6 : List Nat := [0, 0, 3, 0, 0, 24, 0, 64, 192, 448, 960, 448, 2496, 8128, 16320, 32767, 65535, 65535, 262143, 524287]
theorem carrefourref02_Of.tab6 : rtab .any (opsOf Tryz.f39 6) = carrefourref02_Of.T6 := by kernel_rfl
theorem carrefourref02_Of.bits6 : waitsOk carrefourref02_Of.T6.2 carrefourref02_Of.B6 = true := by kernel_rfl
theorem carrefourref02_Of.calls (k : Nat) (a0 : Int) (a1 : Int) (r1 : Int) (r2 : Int) (r3 : Int) (w : World) (h : carrefourref02_Of.f k a0 a1 = some (r1, r2, r3)) :
  Calls Tryz.prog 39 #[.int .i64 a0, .int .i64 a1] w fun e w' => e = .returned (.tuple #[.agg #[.int .i64 r1, .int .i64 r2], .int .i64 r3]) ∧ Below w.heap.size w w' := by
 have hu23 := Tryz.underlying23
 have HB := Aside0.mk (Below.refl w.heap.size w)
 have H : (if a1 = 0 then (some (0, 0, 3)) else ((carrefourref01_Size.f a0).bind fun t355 => ((carrefourref01_Size.f a1).bind fun t356 => ((carrefourref02_gcd.f k t355 t356).bind fun t357 => (if t357 = 0 then (none) else (if a0 = 0 then ((carrefourref02_made.f k (IntKind.u64.wrap (Int.tdiv t355 t357)) (IntKind.u64.wrap (Int.tdiv t356 t357)) false).bind fun bt358 => (some (bt358.1, bt358.2.1, bt358.2.2))) else ((carrefourref02_made.f k (IntKind.u64.wrap (Int.tdiv t355 t357)) (IntKind.u64.wrap (Int.tdiv t356 t357)) ((decide (a0 < 0)) != (decide (a1 < 0)))).bind fun bt361 => (some (bt361.1, bt361.2.1, bt361.2.2))))))))) = some (r1, r2, r3) := h
 clear h
 by_cases c3 : a1 = 0
 ·rw [if_pos c3] at H
  have c3b0 : (a1 == 0) = true := beq_iff_eq.mpr c3
  have c3b1 : (a1 != 0) = false := bne_eq_false_iff_eq.mpr c3
  clear c3
  simp only [Option.some.injEq, Prod.mk.injEq] at H
  obtain ⟨rfl, rfl, rfl⟩ := H
  go_enter Tryz.func39, Tryz.ntmps39
  go_wp2_with (first | ((with_reducible refine gd 4 rfl ?_); refine bx_ 4 23 #[.int .i64 0, .int .i64 0] rfl rfl ?_; intro gb354 hg w4 BK354 hb; have GE354 := bz HB hg; replace HB := bs HB hb; clear hb hg; have hcz5 := X.k2 BK354))
  refine bodyPost_ret (results_ct rfl _ _ gb354 23 #[.int .i64 0, .int .i64 0] (0, 0) _ rfl (br_ BK354) Tryz.underlying23 rfl (by kernel_rfl)) rfl ?_
  exact ⟨ae, bf HB⟩
 ·rw [if_neg c3] at H
  have c3b0 : (a1 == 0) = false := beq_eq_false_iff_ne.mpr c3
  have c3b1 : (a1 != 0) = true := bne_iff_ne.mpr c3
  replace H := bi_ H; obtain ⟨t355, A6, H⟩ := H
  (try dsimp only at H)
  replace H := bi_ H; obtain ⟨t356, A7, H⟩ := H
  (try dsimp only at H)
  replace H := bi_ H; obtain ⟨t357, A8, H⟩ := H
  (try dsimp only at H)
  by_cases c9 : t357 = 0
  ·rw [if_pos c9] at H
   exact absurd H (by simp)
  ·rw [if_neg c9] at H
   have c9b0 : (t357 == 0) = false := beq_eq_false_iff_ne.mpr c9
   have c9b1 : (t357 != 0) = true := bne_iff_ne.mpr c9
   by_cases c10 : a0 = 0
   ·rw [if_pos c10] at H
    have c10b0 : (a0 == 0) = true := beq_iff_eq.mpr c10
    have c10b1 : (a0 != 0) = false := bne_eq_false_iff_eq.mpr c10
    clear c10
    replace H := bi_ H; obtain ⟨⟨t358, t359, t360⟩, A11, H⟩ := H
    (try dsimp only at H)
    simp only [Option.some.injEq, Prod.mk.injEq] at H
    obtain ⟨rfl, rfl, rfl⟩ := H
    go_enter Tryz.func39, Tryz.ntmps39
    try go_wp2_with (first | ((with_reducible refine gd 4 rfl ?_); refine bx_ 4 23 #[.int .i64 0, .int .i64 0] rfl rfl ?_; intro gb354 hg w12 BK354 hb; have GE354 := bz HB hg; replace HB := bs HB hb; clear hb hg) | ((with_reducible refine gc 45 rfl ?_); refine gm_ (some 13) rfl rfl Tryz.func45 (carrefourref01_Size.calls _ _ _ A6.out) ag ?_; rintro w' ⟨nd, rfl⟩; (try (rw [drewN_self w12]; generalize hq_ : World.drewN w12 _ = w12; have n0_ : Aside0 (w12.heap[gb354]? = some (.cells #[.int .i64 0, .int .i64 0] 23 (0, 0))) := ⟨by rw [← hq_]; exact (bx BK354)⟩; have n1_ : Aside0 (Below w.heap.size w w12) := ⟨by rw [← hq_]; exact (bf HB)⟩; clear BK354 HB hq_; have BK354 := n0_; have HB := n1_; clear n0_ n1_))) | ((with_reducible refine gc 45 rfl ?_); refine gm_ (some 15) rfl rfl Tryz.func45 (carrefourref01_Size.calls _ _ _ A7.out) ag ?_; rintro w' ⟨nd, rfl⟩; (try (rw [drewN_self w12]; generalize hq_ : World.drewN w12 _ = w12; have n0_ : Aside0 (w12.heap[gb354]? = some (.cells #[.int .i64 0, .int .i64 0] 23 (0, 0))) := ⟨by rw [← hq_]; exact (bx BK354)⟩; have n1_ : Aside0 (Below w.heap.size w w12) := ⟨by rw [← hq_]; exact (bf HB)⟩; clear BK354 HB hq_; have BK354 := n0_; have HB := n1_; clear n0_ n1_))) | ((with_reducible refine gc 67 rfl ?_); refine gm_ (some 18) rfl rfl Tryz.func67 (carrefourref02_gcd.calls _ _ _ _ _ A8.out) ag ?_; rintro w' ⟨nd, rfl⟩; (try (rw [drewN_self w12]; generalize hq_ : World.drewN w12 _ = w12; have n0_ : Aside0 (w12.heap[gb354]? = some (.cells #[.int .i64 0, .int .i64 0] 23 (0, 0))) := ⟨by rw [← hq_]; exact (bx BK354)⟩; have n1_ : Aside0 (Below w.heap.size w w12) := ⟨by rw [← hq_]; exact (bf HB)⟩; clear BK354 HB hq_; have BK354 := n0_; have HB := n1_; clear n0_ n1_))))
    replace BK354 := Aside0.mk (blk_drew BK354.out)
    replace HB := Aside0.mk (below_drew1 HB.out)
    refine start_ (n := 20) (S := fun w' => True) (ds := []) (m_ 20 0) (by kernel_rfl) rfl rfl trivial (fun hHeld => ?_); refine with_tabW carrefourref02_Of.tab6 carrefourref02_Of.bits6 (fun HT_ HW_ => ?_)
    generalize w12.drew = w13 at BK354 HB hHeld ⊢
    refine pu_ 0 (some 19) (m_ 20 1) rfl rfl (ao HT_) ?_
    refine pu_ 1 (some 20) (m_ 20 3) rfl rfl (ao HT_) ?_
    refine pu_ 2 (some 21) (m_ 20 7) rfl rfl (ao HT_) ?_
    refine pu_ 3 (some 22) (m_ 20 15) rfl rfl (ao HT_) ?_
    refine pu_ 4 (some 23) (m_ 20 31) rfl rfl (ao HT_) ?_
    refine pu_ 5 (some 24) (m_ 20 63) rfl rfl (ao HT_) ?_
    refine pu_ 6 (some 25) (m_ 20 127) rfl rfl (ao HT_) ?_
    refine pu_ 7 (some 26) (m_ 20 255) rfl rfl (ao HT_) ?_
    refine pu_ 8 (some 27) (m_ 20 511) rfl rfl (ao HT_) ?_
    refine pv_ 9 (some 28) (m_ 20 1023) rfl rfl (ao HT_) ?_
    refine pv_ 10 (some 29) (m_ 20 2047) rfl rfl (ao HT_) ?_
    refine pv_ 11 (some 30) (m_ 20 4095) rfl rfl (ao HT_) ?_
    refine pv_ 12 (some 31) (m_ 20 8191) rfl rfl (ao HT_) ?_
    refine pv_ 13 (some 32) (m_ 20 16383) rfl rfl (ao HT_) ?_
    refine pu_ 14 (some 33) (m_ 20 32767) rfl rfl (ao HT_) ?_
    refine o1_ 15 (some 34) (m_ 20 65535) rfl rfl (oo HT_) (fun K hK => ?_)
    refine gs_ rfl Tryz.func68 (carrefourref02_made.calls _ (IntKind.u64.wrap (Int.tdiv t355 t357)) (IntKind.u64.wrap (Int.tdiv t356 t357)) _ _ _ _ _ A11.out) ag ?_
    intro w14 hb
    replace BK354 := bb BK354 hb
    replace HB := bs HB hb
    (try clear hb)
    refine hK.out _ _ trivial (fun hHeld => ?_)
    clear hK K
    refine nr_ (some 34) ?_
    refine pu_ 16 (some 35) (m_ 20 131071) rfl rfl (ao HT_) ?_
    refine pu_ 17 (some 36) (m_ 20 262143) rfl rfl (ao HT_) ?_
    refine o1_ 18 (none) (m_ 20 524287) rfl rfl (oo HT_) (fun K hK => ?_)
    have hs15 : c_ w14 gb354 0 (.int .i64 0) := ct BK354 0
    have hfs15 := blk_frozen BK354.out 0
    have hs16 : c_ w14 gb354 1 (.int .i64 0) := ct BK354 1
    have hfs16 := blk_frozen BK354.out 1
    refine skip_ (w1 := ?_) (by rfl) rfl ?_ ?_
    rotate_left
    ·go_simp
     rfl
    refine hK.out _ _ trivial (fun hHeld => ?_)
    clear hK K
    refine pu_ 19 (some 5) (m_ 20 1048575) rfl rfl (ao HT_) ?_
    refine done_ (done_of HT_.out (by kernel_rfl)) ?_
    try go_wp2
    refine bodyPost_ret (results_ct rfl _ _ gb354 23 #[.int .i64 t358, .int .i64 t359] (0, 0) _ rfl (br_ BK354) Tryz.underlying23 rfl (by kernel_rfl)) rfl ?_
    exact ⟨ae, bf HB⟩
   ·rw [if_neg c10] at H
    have c10b0 : (a0 == 0) = false := beq_eq_false_iff_ne.mpr c10
    have c10b1 : (a0 != 0) = true := bne_iff_ne.mpr c10
    replace H := bi_ H; obtain ⟨⟨t361, t362, t363⟩, A17, H⟩ := H
    (try dsimp only at H)
    simp only [Option.some.injEq, Prod.mk.injEq] at H
    obtain ⟨rfl, rfl, rfl⟩ := H
    go_enter Tryz.func39, Tryz.ntmps39
    try go_wp2_with (first | ((with_reducible refine gd 4 rfl ?_); refine bx_ 4 23 #[.int .i64 0, .int .i64 0] rfl rfl ?_; intro gb354 hg w18 BK354 hb; have GE354 := bz HB hg; replace HB := bs HB hb; clear hb hg) | ((with_reducible refine gc 45 rfl ?_); refine gm_ (some 13) rfl rfl Tryz.func45 (carrefourref01_Size.calls _ _ _ A6.out) ag ?_; rintro w' ⟨nd, rfl⟩; (try (rw [drewN_self w18]; generalize hq_ : World.drewN w18 _ = w18; have n0_ : Aside0 (w18.heap[gb354]? = some (.cells #[.int .i64 0, .int .i64 0] 23 (0, 0))) := ⟨by rw [← hq_]; exact (bx BK354)⟩; have n1_ : Aside0 (Below w.heap.size w w18) := ⟨by rw [← hq_]; exact (bf HB)⟩; clear BK354 HB hq_; have BK354 := n0_; have HB := n1_; clear n0_ n1_))) | ((with_reducible refine gc 45 rfl ?_); refine gm_ (some 15) rfl rfl Tryz.func45 (carrefourref01_Size.calls _ _ _ A7.out) ag ?_; rintro w' ⟨nd, rfl⟩; (try (rw [drewN_self w18]; generalize hq_ : World.drewN w18 _ = w18; have n0_ : Aside0 (w18.heap[gb354]? = some (.cells #[.int .i64 0, .int .i64 0] 23 (0, 0))) := ⟨by rw [← hq_]; exact (bx BK354)⟩; have n1_ : Aside0 (Below w.heap.size w w18) := ⟨by rw [← hq_]; exact (bf HB)⟩; clear BK354 HB hq_; have BK354 := n0_; have HB := n1_; clear n0_ n1_))) | ((with_reducible refine gc 67 rfl ?_); refine gm_ (some 18) rfl rfl Tryz.func67 (carrefourref02_gcd.calls _ _ _ _ _ A8.out) ag ?_; rintro w' ⟨nd, rfl⟩; (try (rw [drewN_self w18]; generalize hq_ : World.drewN w18 _ = w18; have n0_ : Aside0 (w18.heap[gb354]? = some (.cells #[.int .i64 0, .int .i64 0] 23 (0, 0))) := ⟨by rw [← hq_]; exact (bx BK354)⟩; have n1_ : Aside0 (Below w.heap.size w w18) := ⟨by rw [← hq_]; exact (bf HB)⟩; clear BK354 HB hq_; have BK354 := n0_; have HB := n1_; clear n0_ n1_))))
    replace BK354 := Aside0.mk (blk_drew BK354.out)
    replace HB := Aside0.mk (below_drew1 HB.out)
    refine start_ (n := 20) (S := fun w' => True) (ds := []) (m_ 20 0) (by kernel_rfl) rfl rfl trivial (fun hHeld => ?_); refine with_tabW carrefourref02_Of.tab6 carrefourref02_Of.bits6 (fun HT_ HW_ => ?_)
    generalize w18.drew = w19 at BK354 HB hHeld ⊢
    refine pu_ 0 (some 19) (m_ 20 1) rfl rfl (ao HT_) ?_
    refine pu_ 1 (some 20) (m_ 20 3) rfl rfl (ao HT_) ?_
    refine pu_ 2 (some 21) (m_ 20 7) rfl rfl (ao HT_) ?_
    refine pu_ 3 (some 22) (m_ 20 15) rfl rfl (ao HT_) ?_
    refine pu_ 4 (some 23) (m_ 20 31) rfl rfl (ao HT_) ?_
    refine pu_ 5 (some 24) (m_ 20 63) rfl rfl (ao HT_) ?_
    refine pu_ 6 (some 25) (m_ 20 127) rfl rfl (ao HT_) ?_
    refine pu_ 7 (some 26) (m_ 20 255) rfl rfl (ao HT_) ?_
    refine pu_ 8 (some 27) (m_ 20 511) rfl rfl (ao HT_) ?_
    refine pu_ 9 (some 28) (m_ 20 1023) rfl rfl (ao HT_) ?_
    refine pu_ 10 (some 29) (m_ 20 2047) rfl rfl (ao HT_) ?_
    refine pu_ 11 (some 30) (m_ 20 4095) rfl rfl (ao HT_) ?_
    refine pu_ 12 (some 31) (m_ 20 8191) rfl rfl (ao HT_) ?_
    refine pu_ 13 (some 32) (m_ 20 16383) rfl rfl (ao HT_) ?_
    refine pu_ 14 (some 33) (m_ 20 32767) rfl rfl (ao HT_) ?_
    refine o1_ 15 (some 34) (m_ 20 65535) rfl rfl (oo HT_) (fun K hK => ?_)
    refine gs_ rfl Tryz.func68 (carrefourref02_made.calls _ (IntKind.u64.wrap (Int.tdiv t355 t357)) (IntKind.u64.wrap (Int.tdiv t356 t357)) ((decide (a0 < 0)) != (decide (a1 < 0))) _ _ _ _ A17.out) ag ?_
    intro w20 hb
    replace BK354 := bb BK354 hb
    replace HB := bs HB hb
    (try clear hb)
    refine hK.out _ _ trivial (fun hHeld => ?_)
    clear hK K
    refine nr_ (some 34) ?_
    refine pu_ 16 (some 35) (m_ 20 131071) rfl rfl (ao HT_) ?_
    refine pu_ 17 (some 36) (m_ 20 262143) rfl rfl (ao HT_) ?_
    refine o1_ 18 (none) (m_ 20 524287) rfl rfl (oo HT_) (fun K hK => ?_)
    have hs21 : c_ w20 gb354 0 (.int .i64 0) := ct BK354 0
    have hfs21 := blk_frozen BK354.out 0
    have hs22 : c_ w20 gb354 1 (.int .i64 0) := ct BK354 1
    have hfs22 := blk_frozen BK354.out 1
    refine skip_ (w1 := ?_) (by rfl) rfl ?_ ?_
    rotate_left
    ·go_simp
     rfl
    refine hK.out _ _ trivial (fun hHeld => ?_)
    clear hK K
    refine pu_ 19 (some 5) (m_ 20 1048575) rfl rfl (ao HT_) ?_
    refine done_ (done_of HT_.out (by kernel_rfl)) ?_
    try go_wp2
    refine bodyPost_ret (results_ct rfl _ _ gb354 23 #[.int .i64 t361, .int .i64 t362] (0, 0) _ rfl (br_ BK354) Tryz.underlying23 rfl (by kernel_rfl)) rfl ?_
    exact ⟨ae, bf HB⟩

/-! ### carrefourref02_Right: function 69 -/
theorem carrefourref02_Right.calls (k : Nat) (a0_0 : Int) (a0_1 : Int) (r : Bool) (w : World) (h : carrefourref02_Right.f k a0_0 a0_1 = some r) :
  Calls Tryz.prog 69 #[.agg #[.int .i64 a0_0, .int .i64 a0_1]] w fun e w' => e = .returned (.bool r) ∧ Below w.heap.size w w' := by
 have hu23 := Tryz.underlying23
 have HB := Aside0.mk (Below.refl w.heap.size w)
 have H : (if a0_1 ≥ 1 then ((carrefourref01_Size.f a0_0).bind fun t365 => ((carrefourref02_gcd.f k t365 (IntKind.u64.wrap (a0_1))).bind fun t366 => (some (t366 == 1)))) else (some false)) = some r := h
 clear h
 by_cases c2 : a0_1 ≥ 1
 ·rw [if_pos c2] at H
  have c2b0 : decide (1 ≤ a0_1) = true := decide_eq_true c2
  clear c2
  replace H := bi_ H; obtain ⟨t365, A3, H⟩ := H
  (try dsimp only at H)
  replace H := bi_ H; obtain ⟨t366, A4, H⟩ := H
  (try dsimp only at H)
  obtain rfl := Option.some.inj H
  go_enter Tryz.func69, Tryz.ntmps69
  go_wp2_with (first | ((with_reducible refine gd 1 rfl ?_); refine bx_ 1 23 #[.int .i64 a0_0, .int .i64 a0_1] rfl rfl ?_; intro gb364 hg w5 BK364 hb; have GE364 := bz HB hg; replace HB := bs HB hb; clear hb hg; have hcz6 := X.k2 BK364) | (go_at_call 45; (with_reducible refine (carrefourref01_Size.calls _ _ _ A3.out).mono ?_); rintro e w' ⟨rfl, ⟨nd, rfl⟩⟩; (try first | exact ⟨rfl, _, World.drewN_drewN _ _ _⟩ | exact ⟨rfl, _, Eq.trans (World.drewN_drewN _ _ _) (congrArg (World.drewN _) (Nat.add_assoc _ _ _))⟩)) | (go_at_call 67; (with_reducible refine (carrefourref02_gcd.calls _ _ (IntKind.u64.wrap (a0_1)) _ _ A4.out).mono ?_); rintro e w' ⟨rfl, ⟨nd, rfl⟩⟩; (try first | exact ⟨rfl, _, World.drewN_drewN _ _ _⟩ | exact ⟨rfl, _, Eq.trans (World.drewN_drewN _ _ _) (congrArg (World.drewN _) (Nat.add_assoc _ _ _))⟩)))
  repeat (go_quiet (first | ((with_reducible refine gd 1 rfl ?_); refine bx_ 1 23 #[.int .i64 a0_0, .int .i64 a0_1] rfl rfl ?_; intro gb364 hg w5 BK364 hb; have GE364 := bz HB hg; replace HB := bs HB hb; clear hb hg; have hcz6 := X.k2 BK364) | (go_at_call 45; (with_reducible refine (carrefourref01_Size.calls _ _ _ A3.out).mono ?_); rintro e w' ⟨rfl, ⟨nd, rfl⟩⟩; (try first | exact ⟨rfl, _, World.drewN_drewN _ _ _⟩ | exact ⟨rfl, _, Eq.trans (World.drewN_drewN _ _ _) (congrArg (World.drewN _) (Nat.add_assoc _ _ _))⟩)) | (go_at_call 67; (with_reducible refine (carrefourref02_gcd.calls _ _ (IntKind.u64.wrap (a0_1)) _ _ A4.out).mono ?_); rintro e w' ⟨rfl, ⟨nd, rfl⟩⟩; (try first | exact ⟨rfl, _, World.drewN_drewN _ _ _⟩ | exact ⟨rfl, _, Eq.trans (World.drewN_drewN _ _ _) (congrArg (World.drewN _) (Nat.add_assoc _ _ _))⟩))); try go_wp2_with (first | ((with_reducible refine gd 1 rfl ?_); refine bx_ 1 23 #[.int .i64 a0_0, .int .i64 a0_1] rfl rfl ?_; intro gb364 hg w5 BK364 hb; have GE364 := bz HB hg; replace HB := bs HB hb; clear hb hg; have hcz6 := X.k2 BK364) | (go_at_call 45; (with_reducible refine (carrefourref01_Size.calls _ _ _ A3.out).mono ?_); rintro e w' ⟨rfl, ⟨nd, rfl⟩⟩; (try first | exact ⟨rfl, _, World.drewN_drewN _ _ _⟩ | exact ⟨rfl, _, Eq.trans (World.drewN_drewN _ _ _) (congrArg (World.drewN _) (Nat.add_assoc _ _ _))⟩)) | (go_at_call 67; (with_reducible refine (carrefourref02_gcd.calls _ _ (IntKind.u64.wrap (a0_1)) _ _ A4.out).mono ?_); rintro e w' ⟨rfl, ⟨nd, rfl⟩⟩; (try first | exact ⟨rfl, _, World.drewN_drewN _ _ _⟩ | exact ⟨rfl, _, Eq.trans (World.drewN_drewN _ _ _) (congrArg (World.drewN _) (Nat.add_assoc _ _ _))⟩))))
  go_ret
  exact ⟨ae, bf HB⟩
 ·rw [if_neg c2] at H
  have c2b0 : decide (1 ≤ a0_1) = false := decide_eq_false c2
  clear c2
  obtain rfl := Option.some.inj H
  go_enter Tryz.func69, Tryz.ntmps69
  go_wp2_with (first | ((with_reducible refine gd 1 rfl ?_); refine bx_ 1 23 #[.int .i64 a0_0, .int .i64 a0_1] rfl rfl ?_; intro gb364 hg w7 BK364 hb; have GE364 := bz HB hg; replace HB := bs HB hb; clear hb hg; have hcz8 := X.k2 BK364))
  repeat (go_quiet (first | ((with_reducible refine gd 1 rfl ?_); refine bx_ 1 23 #[.int .i64 a0_0, .int .i64 a0_1] rfl rfl ?_; intro gb364 hg w7 BK364 hb; have GE364 := bz HB hg; replace HB := bs HB hb; clear hb hg; have hcz8 := X.k2 BK364)); try go_wp2_with (first | ((with_reducible refine gd 1 rfl ?_); refine bx_ 1 23 #[.int .i64 a0_0, .int .i64 a0_1] rfl rfl ?_; intro gb364 hg w7 BK364 hb; have GE364 := bz HB hg; replace HB := bs HB hb; clear hb hg; have hcz8 := X.k2 BK364)))
  go_ret
  exact ⟨ae, bf HB⟩

/-! ### carrefourref02_Norm: function 41 -/
theorem carrefourref02_Norm.calls (k : Nat) (a0_0 : Int) (a0_1 : Int) (r1 : Int) (r2 : Int) (w : World) (h : carrefourref02_Norm.f k a0_0 a0_1 = some (r1, r2)) :
  Calls Tryz.prog 41 #[.agg #[.int .i64 a0_0, .int .i64 a0_1]] w fun e w' => e = .returned (.agg #[.int .i64 r1, .int .i64 r2]) ∧ Below w.heap.size w w' := by
 have hu23 := Tryz.underlying23
 have HB := Aside0.mk (Below.refl w.heap.size w)
 have H : ((carrefourref02_Right.f k a0_0 a0_1).bind fun t369 => (if t369 = true then (some (a0_0, a0_1)) else (some (0, 1)))) = some (r1, r2) := h
 clear h
 replace H := bi_ H; obtain ⟨t369, A2, H⟩ := H
 (try dsimp only at H)
 by_cases c3 : t369 = true
 ·subst c3
  have H1 : (some (a0_0, a0_1)) = some (r1, r2) := by rw [if_pos rfl] at H; exact H
  clear H
  have H := H1
  clear H1
  simp only [Option.some.injEq, Prod.mk.injEq] at H
  obtain ⟨rfl, rfl⟩ := H
  go_enter Tryz.func41, Tryz.ntmps41
  go_wp2_with (first | ((with_reducible refine gd 1 rfl ?_); refine bx_ 1 23 #[.int .i64 a0_0, .int .i64 a0_1] rfl rfl ?_; intro gb367 hg w4 BK367 hb; have GE367 := bz HB hg; replace HB := bs HB hb; clear hb hg) | ((with_reducible refine gd 2 rfl ?_); refine bx_ 2 23 #[.int .i64 0, .int .i64 0] rfl rfl ?_; intro gb368 hg w5 BK368 hb; have GE368 := bz HB hg; have ⟨NB367_368, NB368_367⟩ := nb BK367 hg; replace BK367 := bb BK367 hb; replace HB := bs HB hb; clear hb hg; have hnb6 := nn NB367_368; have hcz7 := X.k2 BK367) | ((with_reducible refine gc 69 rfl ?_); refine gm_ (some 4) rfl rfl Tryz.func69 (carrefourref02_Right.calls _ _ _ _ _ A2.out) ag ?_; intro w8 hb; replace BK367 := bb BK367 hb; replace BK368 := bb BK368 hb; replace HB := bs HB hb; (try clear hb); have hcz9 := X.k2 BK367; have hcz10 := X.k2 BK368))
  refine bodyPost_ret (results_cell_row rfl _ _ gb368 23 #[.int .i64 a0_0, .int .i64 a0_1] (0, 0) _ rfl (br_ BK368) Tryz.underlying23 rfl (by kernel_rfl)) rfl ?_
  exact ⟨ae, bf HB⟩
 ·replace c3 := Bool.eq_false_iff.mpr c3
  subst c3
  have H1 : (some (0, 1)) = some (r1, r2) := by rw [if_neg (show ¬ (false = true) by decide)] at H; exact H
  clear H
  have H := H1
  clear H1
  simp only [Option.some.injEq, Prod.mk.injEq] at H
  obtain ⟨rfl, rfl⟩ := H
  go_enter Tryz.func41, Tryz.ntmps41
  go_wp2_with (first | ((with_reducible refine gd 1 rfl ?_); refine bx_ 1 23 #[.int .i64 a0_0, .int .i64 a0_1] rfl rfl ?_; intro gb367 hg w11 BK367 hb; have GE367 := bz HB hg; replace HB := bs HB hb; clear hb hg) | ((with_reducible refine gd 2 rfl ?_); refine bx_ 2 23 #[.int .i64 0, .int .i64 0] rfl rfl ?_; intro gb368 hg w12 BK368 hb; have GE368 := bz HB hg; have ⟨NB367_368, NB368_367⟩ := nb BK367 hg; replace BK367 := bb BK367 hb; replace HB := bs HB hb; clear hb hg; have hnb13 := nn NB367_368; have hcz14 := X.k2 BK367) | ((with_reducible refine gc 69 rfl ?_); refine gm_ (some 4) rfl rfl Tryz.func69 (carrefourref02_Right.calls _ _ _ _ _ A2.out) ag ?_; intro w15 hb; replace BK368 := bb BK368 hb; replace HB := bs HB hb; (try clear hb); have hcz16 := X.k2 BK368))
  refine bodyPost_ret (results_cell_row rfl _ _ gb368 23 #[.int .i64 0, .int .i64 1] (0, 0) _ rfl (br_ BK368) Tryz.underlying23 rfl (by kernel_rfl)) rfl ?_
  exact ⟨ae, bf HB⟩

/-! ### carrefourref02_few: function 42 -/
theorem carrefourref02_few.calls (a0_0 : Int) (a0_1 : Int) (a1_0 : Int) (a1_1 : Int) (r : Bool) (w : World) (h : carrefourref02_few.f a0_0 a0_1 a1_0 a1_1 = some r) :
  Calls Tryz.prog 42 #[.agg #[.int .i64 a0_0, .int .i64 a0_1], .agg #[.int .i64 a1_0, .int .i64 a1_1]] w fun e w' => e = .returned (.bool r) ∧ Below w.heap.size w w' := by
 have hu23 := Tryz.underlying23
 have HB := Aside0.mk (Below.refl w.heap.size w)
 have H : ((carrefourref01_Size.f a0_0).bind fun t372 => (if t372 < 1073741824 then ((carrefourref01_Size.f a1_0).bind fun t373 => (if t373 < 1073741824 then (if a0_1 < 1073741824 then (some (decide (a1_1 < 1073741824))) else (some false)) else (some false))) else (some false))) = some r := h
 clear h
 replace H := bi_ H; obtain ⟨t372, A3, H⟩ := H
 (try dsimp only at H)
 by_cases c4 : t372 < 1073741824
 ·rw [if_pos c4] at H
  have c4b0 : decide (t372 < 1073741824) = true := decide_eq_true c4
  clear c4
  replace H := bi_ H; obtain ⟨t373, A5, H⟩ := H
  (try dsimp only at H)
  by_cases c6 : t373 < 1073741824
  ·rw [if_pos c6] at H
   have c6b0 : decide (t373 < 1073741824) = true := decide_eq_true c6
   clear c6
   by_cases c7 : a0_1 < 1073741824
   ·rw [if_pos c7] at H
    have c7b0 : decide (a0_1 < 1073741824) = true := decide_eq_true c7
    clear c7
    obtain rfl := Option.some.inj H
    go_enter Tryz.func42, Tryz.ntmps42
    go_wp2_with (first | ((with_reducible refine gd 2 rfl ?_); refine bx_ 2 23 #[.int .i64 a0_0, .int .i64 a0_1] rfl rfl ?_; intro gb370 hg w8 BK370 hb; have GE370 := bz HB hg; replace HB := bs HB hb; clear hb hg) | ((with_reducible refine gd 3 rfl ?_); refine bx_ 3 23 #[.int .i64 a1_0, .int .i64 a1_1] rfl rfl ?_; intro gb371 hg w9 BK371 hb; have GE371 := bz HB hg; have ⟨NB370_371, NB371_370⟩ := nb BK370 hg; replace BK370 := bb BK370 hb; replace HB := bs HB hb; clear hb hg; have hnb10 := nn NB370_371; have hcz11 := X.k2 BK370) | ((with_reducible refine gc 45 rfl ?_); refine gm_ (some 7) rfl rfl Tryz.func45 (carrefourref01_Size.calls _ _ _ A3.out) ag ?_; rintro w' ⟨nd, rfl⟩; have hcz12 := X.k2 BK371) | (go_at_call 45; (with_reducible refine (carrefourref01_Size.calls _ _ _ A5.out).mono ?_); rintro e w' ⟨rfl, ⟨nd, rfl⟩⟩))
    go_ret
    exact ⟨ae, bf HB⟩
   ·rw [if_neg c7] at H
    have c7b0 : decide (a0_1 < 1073741824) = false := decide_eq_false c7
    clear c7
    obtain rfl := Option.some.inj H
    go_enter Tryz.func42, Tryz.ntmps42
    go_wp2_with (first | ((with_reducible refine gd 2 rfl ?_); refine bx_ 2 23 #[.int .i64 a0_0, .int .i64 a0_1] rfl rfl ?_; intro gb370 hg w13 BK370 hb; have GE370 := bz HB hg; replace HB := bs HB hb; clear hb hg) | ((with_reducible refine gd 3 rfl ?_); refine bx_ 3 23 #[.int .i64 a1_0, .int .i64 a1_1] rfl rfl ?_; intro gb371 hg w14 BK371 hb; have GE371 := bz HB hg; have ⟨NB370_371, NB371_370⟩ := nb BK370 hg; replace BK370 := bb BK370 hb; replace HB := bs HB hb; clear hb hg; have hnb15 := nn NB370_371; have hcz16 := X.k2 BK370) | ((with_reducible refine gc 45 rfl ?_); refine gm_ (some 7) rfl rfl Tryz.func45 (carrefourref01_Size.calls _ _ _ A3.out) ag ?_; rintro w' ⟨nd, rfl⟩; have hcz17 := X.k2 BK371) | (go_at_call 45; (with_reducible refine (carrefourref01_Size.calls _ _ _ A5.out).mono ?_); rintro e w' ⟨rfl, ⟨nd, rfl⟩⟩))
    go_ret
    exact ⟨ae, bf HB⟩
  ·rw [if_neg c6] at H
   have c6b0 : decide (t373 < 1073741824) = false := decide_eq_false c6
   clear c6
   obtain rfl := Option.some.inj H
   go_enter Tryz.func42, Tryz.ntmps42
   go_wp2_with (first | ((with_reducible refine gd 2 rfl ?_); refine bx_ 2 23 #[.int .i64 a0_0, .int .i64 a0_1] rfl rfl ?_; intro gb370 hg w18 BK370 hb; have GE370 := bz HB hg; replace HB := bs HB hb; clear hb hg) | ((with_reducible refine gd 3 rfl ?_); refine bx_ 3 23 #[.int .i64 a1_0, .int .i64 a1_1] rfl rfl ?_; intro gb371 hg w19 BK371 hb; have GE371 := bz HB hg; have ⟨NB370_371, NB371_370⟩ := nb BK370 hg; replace BK370 := bb BK370 hb; replace HB := bs HB hb; clear hb hg; have hnb20 := nn NB370_371; have hcz21 := X.k2 BK370) | ((with_reducible refine gc 45 rfl ?_); refine gm_ (some 7) rfl rfl Tryz.func45 (carrefourref01_Size.calls _ _ _ A3.out) ag ?_; rintro w' ⟨nd, rfl⟩; have hcz22 := X.k2 BK371) | (go_at_call 45; (with_reducible refine (carrefourref01_Size.calls _ _ _ A5.out).mono ?_); rintro e w' ⟨rfl, ⟨nd, rfl⟩⟩))
   go_ret
   exact ⟨ae, bf HB⟩
 ·rw [if_neg c4] at H
  have c4b0 : decide (t372 < 1073741824) = false := decide_eq_false c4
  clear c4
  obtain rfl := Option.some.inj H
  go_enter Tryz.func42, Tryz.ntmps42
  go_wp2_with (first | ((with_reducible refine gd 2 rfl ?_); refine bx_ 2 23 #[.int .i64 a0_0, .int .i64 a0_1] rfl rfl ?_; intro gb370 hg w23 BK370 hb; have GE370 := bz HB hg; replace HB := bs HB hb; clear hb hg) | ((with_reducible refine gd 3 rfl ?_); refine bx_ 3 23 #[.int .i64 a1_0, .int .i64 a1_1] rfl rfl ?_; intro gb371 hg w24 BK371 hb; have GE371 := bz HB hg; have ⟨NB370_371, NB371_370⟩ := nb BK370 hg; replace BK370 := bb BK370 hb; replace HB := bs HB hb; clear hb hg; have hnb25 := nn NB370_371; have hcz26 := X.k2 BK370) | ((with_reducible refine gc 45 rfl ?_); refine gm_ (some 7) rfl rfl Tryz.func45 (carrefourref01_Size.calls _ _ _ A3.out) ag ?_; rintro w' ⟨nd, rfl⟩))
  go_ret
  exact ⟨ae, bf HB⟩

/-! ### carrefourref02_trim: function 43 -/
theorem carrefourref02_trim.calls (k : Nat) (A0 : Option Addr) (c0 : Nat) (l0 : List Int) (r : List Int) (w : World) (hr0 : Kd.C (Kd.int .u64) w A0 l0.length l0) (hc0 : l0.length ≤ c0) (h : carrefourref02_trim.f k l0 = some r) :
  Calls Tryz.prog 43 #[.slice A0 l0.length c0] w fun e w' => ∃ v0_ : Value, e = .returned (v0_) ∧ Kd.R (Kd.int .u64) 74 w' w.heap.size (fun _ => True) v0_ r ∧ Below w.heap.size w w' := by
 have HR0 := Aside0.mk hr0
 have HC0 := Aside0.mk hc0
 clear hr0 hc0
 have HB := Aside0.mk (Below.refl w.heap.size w)
 have H : (carrefourref02_trim.l0 k l0 (l0.length : Int)) = some r := h
 clear h
 have H' := Aside0.mk H
 clear H
 go_enter Tryz.func43, Tryz.ntmps43
 go_wp2
 go_loopg [3] k (fun kq v3 w' => ∃ (x3_1 : Int), v3 = .int .i64 x3_1 ∧ Aside0 (carrefourref02_trim.l0 kq l0 x3_1 = some r) ∧ Aside0 (kq ≤ k) ∧ Aside0 (Below w.heap.size w w'))
 case atStart => exact ⟨((l0.length : Int)), (aq), H', ⟨Nat.le_refl _⟩, ⟨bf HB⟩⟩
 case round =>
  clear H'
  obtain ⟨x3_1, rfl, HA, HK1, HB⟩ := hrel
  cases gk with
  | zero => exact absurd HA.out (by simp [carrefourref02_trim.l0])
  | succ k1 =>
   have H := HA.out
   clear HA
   simp only [carrefourref02_trim.l0] at H
   by_cases c2 : x3_1 > 0
   ·rw [if_pos c2] at H
    have c2b0 : decide (0 < x3_1) = true := decide_eq_true c2
    clear c2
    obtain ⟨ji3, hji3⟩ : ∃ j_ : Int, (wrap64 (x3_1 - 1)) = j_ := ⟨_, rfl⟩
    replace H : (if 0 ≤ (ji3) then (if (ji3) < (l0.length : Int) then (if (rd l0 (ji3)) = 0 then (carrefourref02_trim.l0 k1 l0 ji3) else ((some (([] : List Int) : List Int)).bind fun y375 => (if 0 ≤ x3_1 then (if x3_1 ≤ (l0.length : Int) then (if y375.length + (l0.take (x3_1 : Int).toNat).length < 17592186044416 then (some (y375 ++ (l0.take (x3_1 : Int).toNat))) else (none)) else (none)) else (none)))) else (none)) else (none)) = some r := by first | (rw [hji3] at H; exact H) | (simp only [hji3] at H ⊢; exact H)
    have hji3w : (IntKind.i64.wrap (x3_1 - 1)) = ji3 := (i64_w _).trans hji3
    by_cases c4 : 0 ≤ (ji3)
    ·rw [if_pos c4] at H
     have c4b0 : decide (0 ≤ (ji3)) = true := decide_eq_true c4
     clear c4
     by_cases c5 : (ji3) < (l0.length : Int)
     ·rw [if_pos c5] at H
      have c5b0 : decide ((ji3) < (l0.length : Int)) = true := decide_eq_true c5
      clear c5
      by_cases c6 : (rd l0 (ji3)) = 0
      ·rw [if_pos c6] at H
       have c6b0 : ((rd l0 (ji3)) == 0) = true := beq_iff_eq.mpr c6
       have c6b1 : ((rd l0 (ji3)) != 0) = false := bne_eq_false_iff_eq.mpr c6
       clear c6
       have H' := Aside0.mk H
       clear H
       have p374 : 0 ≤ ((ji3) : Int) := od_
       have q374 : (ji3) < (l0.length : Int) := od_
       obtain ⟨ad374, e374, hx374_0⟩ := Kd.at_int HR0.out (ji3) p374 q374
       cases e374
       replace hx374_0 := hx_ HB hx374_0
       replace p374 := eq_true p374
       replace q374 := eq_true q374
       go_wp2
       go_roundg k1
       case measure => have := HK1.out; omega
       case rel => exact ⟨(ji3), (by first | rfl | (simp; done) | (simp only [← hji3] <;> (first | rfl | simp)) | (simp [*]; done)), H', ⟨by have := HK1.out; omega⟩, ⟨bf HB⟩⟩
      ·rw [if_neg c6] at H
       have c6b0 : ((rd l0 (ji3)) == 0) = false := beq_eq_false_iff_ne.mpr c6
       have c6b1 : ((rd l0 (ji3)) != 0) = true := bne_iff_ne.mpr c6
       obtain ⟨y375, hy375⟩ : ∃ y_ : List Int, y_ = (([] : List Int)) := ⟨_, rfl⟩
       replace H : (if 0 ≤ x3_1 then (if x3_1 ≤ (l0.length : Int) then (if y375.length + (l0.take (x3_1 : Int).toNat).length < 17592186044416 then (some (y375 ++ (l0.take (x3_1 : Int).toNat))) else (none)) else (none)) else (none)) = some r := by first | (rw [hy375]; with_reducible exact H) | (have H2_ := (Option.bind_some _ _).symm.trans H; rw [hy375]; with_reducible exact H2_) | (have H2_ := (Option.bind_some _ _).symm.trans H; with_reducible exact H2_) | with_reducible exact H | (rw [hy375]; exact H) | exact H
       have Ny375 := Aside0.mk hy375
       clear hy375
       by_cases c7 : 0 ≤ x3_1
       ·rw [if_pos c7] at H
        have c7b0 := eq_true c7
        have c7b1 : decide (0 ≤ x3_1) = true := decide_eq_true c7
        clear c7
        by_cases c8 : x3_1 ≤ (l0.length : Int)
        ·rw [if_pos c8] at H
         have c8b0 := eq_true c8
         have c8b1 : decide (x3_1 ≤ (l0.length : Int)) = true := decide_eq_true c8
         clear c8
         by_cases c9 : y375.length + (l0.take (x3_1 : Int).toNat).length < 17592186044416
         ·rw [if_pos c9] at H
          have LMc9 := Aside0.mk c9
          clear c9
          obtain ⟨y379, hy379⟩ : ∃ y_ : List Int, y_ = (y375 ++ (l0.take (x3_1 : Int).toNat)) := ⟨_, rfl⟩
          replace H : (some y379) = some r := by first | (rw [hy379]; with_reducible exact H) | (have H2_ := (Option.bind_some _ _).symm.trans H; rw [hy379]; with_reducible exact H2_) | (have H2_ := (Option.bind_some _ _).symm.trans H; with_reducible exact H2_) | with_reducible exact H | (rw [hy379]; exact H) | exact H
          have Ny379 := Aside0.mk hy379
          clear hy379
          obtain rfl := Option.some.inj H
          have p374 : 0 ≤ ((ji3) : Int) := od_
          have q374 : (ji3) < (l0.length : Int) := od_
          obtain ⟨ad374, e374, hx374_0⟩ := Kd.at_int HR0.out (ji3) p374 q374
          cases e374
          replace hx374_0 := hx_ HB hx374_0
          replace p374 := eq_true p374
          replace q374 := eq_true q374
          go_wp2_with (first | ((with_reducible refine gate_dst (N := 18) rfl ?_); refine Kd.R_lit (Kd.int .u64) _ 74 ?hg (N := 18) ?hd (xs := ([] : List Int)) (inner := []) (ok := fun _ => True) (okp := fun _ => True) ?hr ?hp (fun _ hk => hk) trivial (Below.refl _ _) (Nat.le_refl _) (by simp) ?_; (case hd => rfl); (case hg => rfl); (case hr => first | (go_simp; done) | (go_simp; rfl)); (case hp => exact (Reps.none _ _)); intro v376 w10 ho11 hb hg_ hnew_; clear hg_ hnew_; (first | rw [← Ny375.out] at ho11 | (simp only [Int.reduceToNat] at ho11; rw [← Ny375.out] at ho11)); have HO377 := Aside0.mk (Kd.R_lower ho11 (below_size (bf HB))); replace HB := bs HB hb; clear hb ho11; obtain ⟨i012, hi012, _, hsz12, _⟩ := info_parts info74; obtain ⟨hcut12, hA12, hC12⟩ := print_take_of (P := Tryz.prog) (Value.int .u64) 0 94 74 .i64 Tryz.underlying94 hi012 hsz12 (some ad374) c0 l0 x3_1 (od_) (od_) HC0.out; have HR378 := Aside0.mk (Kd.C_of_reads (h1 := fun _ => rfl) (hA12 _ (Kd.reads_of_C HR0.out))); have HC378 := Aside0.mk hC12; clear hA12 hC12 hi012 hsz12) | ((with_reducible refine gate_builtin (b := .append) (xs := #[.tmp 18, .tmp 21]) rfl ?_); at_builtin; refine Kd.R_append_rows (Kd.int .u64) (w0 := w) w.heap.size rfl (.tmp 18) (.tmp 21) 94 74 (.int .u64 0) 8 rfl Tryz.underlying94 info74 rfl (by decide) (by omega) v376 y375 (l0.take (x3_1 : Int).toNat) _ _ _ (fun _ => True) (fun _ => False) rfl rfl ?aO ?aR (fun _ _ h => h) (fun _ h => h.elim) ?aF ?aB ?aS ?aL ?_; (case aR => first | (refine cl_ (show (l0.take (x3_1 : Int).toNat).length = x3_1.toNat from (by rw [List.length_take]; have h_ : (x3_1 : Int) ≤ (l0.length : Int) := od_; omega)) ?_; repeat (first | exact (Kd.C_below HR378.out HB.out) | (with_reducible refine Kd.C_alloc ?_ _) | (with_reducible refine Kd.C_drewN ?_ _) | (with_reducible refine Kd.C_drew ?_))) | (repeat (first | exact (Kd.C_below HR378.out HB.out) | (with_reducible refine Kd.C_alloc ?_ _) | (with_reducible refine Kd.C_drewN ?_ _) | (with_reducible refine Kd.C_drew ?_)))); (case aB => exact (bf HB)); (case aF => exact (fun _ _ => trivial)); (case aO => exact (Rt_ HO377.out)); (case aS => exact (below_size (bf HB))); (case aL => have := LMc9.out; have hlx_ := (show (l0.take (x3_1 : Int).toNat).length = x3_1.toNat from (by rw [List.length_take]; have h_ : (x3_1 : Int) ≤ (l0.length : Int) := od_; omega)); omega); intro v380 w13 ho hb hg hat; rw [← Ny379.out] at ho; have n0_ := Aside0.mk (hb); have n1_ := Aside0.mk (ho); clear HB; clear HO377; have HB := n0_; have HO381 := n1_; clear n0_ n1_; clear ho hb hg hat))
          go_ret
          exact ⟨_, by first | rfl | (simp [errW_none, errW_some] <;> rfl) | (simp only [← hji3]; first | rfl | (simp [errW_none, errW_some] <;> rfl)) | (simp [*, errW_none, errW_some] <;> rfl), by (with_reducible repeat (first | apply Kd.R_alloc | apply Kd.R_drewN | apply Kd.R_drew)); exact HO381.out, bf HB⟩
         ·rw [if_neg c9] at H
          exact absurd H (by simp)
        ·rw [if_neg c8] at H
         exact absurd H (by simp)
       ·rw [if_neg c7] at H
        exact absurd H (by simp)
     ·rw [if_neg c5] at H
      exact absurd H (by simp)
    ·rw [if_neg c4] at H
     exact absurd H (by simp)
   ·rw [if_neg c2] at H
    have c2b0 : decide (0 < x3_1) = false := decide_eq_false c2
    clear c2
    obtain ⟨y382, hy382⟩ : ∃ y_ : List Int, y_ = (([] : List Int)) := ⟨_, rfl⟩
    replace H : (if 0 ≤ x3_1 then (if x3_1 ≤ (l0.length : Int) then (if y382.length + (l0.take (x3_1 : Int).toNat).length < 17592186044416 then (some (y382 ++ (l0.take (x3_1 : Int).toNat))) else (none)) else (none)) else (none)) = some r := by first | (rw [hy382]; with_reducible exact H) | (have H2_ := (Option.bind_some _ _).symm.trans H; rw [hy382]; with_reducible exact H2_) | (have H2_ := (Option.bind_some _ _).symm.trans H; with_reducible exact H2_) | with_reducible exact H | (rw [hy382]; exact H) | exact H
    have Ny382 := Aside0.mk hy382
    clear hy382
    by_cases c14 : 0 ≤ x3_1
    ·rw [if_pos c14] at H
     have c14b0 := eq_true c14
     have c14b1 : decide (0 ≤ x3_1) = true := decide_eq_true c14
     clear c14
     by_cases c15 : x3_1 ≤ (l0.length : Int)
     ·rw [if_pos c15] at H
      have c15b0 := eq_true c15
      have c15b1 : decide (x3_1 ≤ (l0.length : Int)) = true := decide_eq_true c15
      clear c15
      by_cases c16 : y382.length + (l0.take (x3_1 : Int).toNat).length < 17592186044416
      ·rw [if_pos c16] at H
       have LMc16 := Aside0.mk c16
       clear c16
       obtain ⟨y386, hy386⟩ : ∃ y_ : List Int, y_ = (y382 ++ (l0.take (x3_1 : Int).toNat)) := ⟨_, rfl⟩
       replace H : (some y386) = some r := by first | (rw [hy386]; with_reducible exact H) | (have H2_ := (Option.bind_some _ _).symm.trans H; rw [hy386]; with_reducible exact H2_) | (have H2_ := (Option.bind_some _ _).symm.trans H; with_reducible exact H2_) | with_reducible exact H | (rw [hy386]; exact H) | exact H
       have Ny386 := Aside0.mk hy386
       clear hy386
       obtain rfl := Option.some.inj H
       go_wp2_with (first | ((with_reducible refine gate_dst (N := 18) rfl ?_); refine Kd.R_lit (Kd.int .u64) _ 74 ?hg (N := 18) ?hd (xs := ([] : List Int)) (inner := []) (ok := fun _ => True) (okp := fun _ => True) ?hr ?hp (fun _ hk => hk) trivial (Below.refl _ _) (Nat.le_refl _) (by simp) ?_; (case hd => rfl); (case hg => rfl); (case hr => first | (go_simp; done) | (go_simp; rfl)); (case hp => exact (Reps.none _ _)); intro v383 w17 ho18 hb hg_ hnew_; clear hg_ hnew_; (first | rw [← Ny382.out] at ho18 | (simp only [Int.reduceToNat] at ho18; rw [← Ny382.out] at ho18)); have HO384 := Aside0.mk (Kd.R_lower ho18 (below_size (bf HB))); replace HB := bs HB hb; clear hb ho18; obtain ⟨i019, hi019, _, hsz19, _⟩ := info_parts info74; obtain ⟨hcut19, hA19, hC19⟩ := print_take_of (P := Tryz.prog) (Value.int .u64) 0 94 74 .i64 Tryz.underlying94 hi019 hsz19 A0 c0 l0 x3_1 (od_) (od_) HC0.out; have HR385 := Aside0.mk (Kd.C_of_reads (h1 := fun _ => rfl) (hA19 _ (Kd.reads_of_C HR0.out))); have HC385 := Aside0.mk hC19; clear hA19 hC19 hi019 hsz19) | ((with_reducible refine gate_builtin (b := .append) (xs := #[.tmp 18, .tmp 21]) rfl ?_); at_builtin; refine Kd.R_append_rows (Kd.int .u64) (w0 := w) w.heap.size rfl (.tmp 18) (.tmp 21) 94 74 (.int .u64 0) 8 rfl Tryz.underlying94 info74 rfl (by decide) (by omega) v383 y382 (l0.take (x3_1 : Int).toNat) _ _ _ (fun _ => True) (fun _ => False) rfl rfl ?aO ?aR (fun _ _ h => h) (fun _ h => h.elim) ?aF ?aB ?aS ?aL ?_; (case aR => first | (refine cl_ (show (l0.take (x3_1 : Int).toNat).length = x3_1.toNat from (by rw [List.length_take]; have h_ : (x3_1 : Int) ≤ (l0.length : Int) := od_; omega)) ?_; repeat (first | exact (Kd.C_below HR385.out HB.out) | (with_reducible refine Kd.C_alloc ?_ _) | (with_reducible refine Kd.C_drewN ?_ _) | (with_reducible refine Kd.C_drew ?_))) | (repeat (first | exact (Kd.C_below HR385.out HB.out) | (with_reducible refine Kd.C_alloc ?_ _) | (with_reducible refine Kd.C_drewN ?_ _) | (with_reducible refine Kd.C_drew ?_)))); (case aB => exact (bf HB)); (case aF => exact (fun _ _ => trivial)); (case aO => exact (Rt_ HO384.out)); (case aS => exact (below_size (bf HB))); (case aL => have := LMc16.out; have hlx_ := (show (l0.take (x3_1 : Int).toNat).length = x3_1.toNat from (by rw [List.length_take]; have h_ : (x3_1 : Int) ≤ (l0.length : Int) := od_; omega)); omega); intro v387 w20 ho hb hg hat; rw [← Ny386.out] at ho; have n0_ := Aside0.mk (hb); have n1_ := Aside0.mk (ho); clear HB; clear HO384; have HB := n0_; have HO388 := n1_; clear n0_ n1_; clear ho hb hg hat))
       go_ret
       exact ⟨_, ae, by (with_reducible repeat (first | apply Kd.R_alloc | apply Kd.R_drewN | apply Kd.R_drew)); exact HO388.out, bf HB⟩
      ·rw [if_neg c16] at H
       exact absurd H (by simp)
     ·rw [if_neg c15] at H
      exact absurd H (by simp)
    ·rw [if_neg c14] at H
     exact absurd H (by simp)

end Go.Proofs.YtfhokgkpcphmlaaGreatDoor.X
