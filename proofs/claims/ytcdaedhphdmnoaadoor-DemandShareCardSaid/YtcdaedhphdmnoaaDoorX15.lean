/- Walks: each '.calls' says that the Go function comes to what its Lean function tells. Conditions: as each theorem's head says. -/
import Derived.Test.YtcdaedhphdmnoaaDoorXD
import Derived.Test.YtcdaedhphdmnoaaDoorX0
import Derived.Test.YtcdaedhphdmnoaaDoorX14
namespace Go.Proofs.YtcdaedhphdmnoaaDoor.X
open Go.RowKit Go.Proofs.YtcdaedhphdmnoaaDoorW.PrintWords Go.Proofs.YtcdaedhphdmnoaaDoorW.PrintLast Go.Proofs.YtcdaedhphdmnoaaDoorW.PrintMore
attribute [local go_sem] max2_int min2_int max_two min_two max_three min_three max_four min_four   -- for this text's walks alone
set_option linter.unusedVariables false
set_option maxHeartbeats 8000000
set_option maxRecDepth 100000
set_option linter.unusedSimpArgs false

/-! ### carrefourref02_made: function 48 -/
theorem carrefourref02_made.calls (k : Nat) (a0 : Int) (a1 : Int) (a2 : Bool) (r1 : Int) (r2 : Int) (r3 : Int) (w : World) (h : carrefourref02_made.f k a0 a1 a2 = some (r1, r2, r3)) :
    Calls Tryd.prog 48 #[.int .u64 a0, .int .u64 a1, .bool a2] w fun e w' => e = .returned (.tuple #[.agg #[.int .i64 r1, .int .i64 r2], .int .i64 r3]) ∧ Below w.heap.size w w' := by
  have hu23 := Tryd.underlying23
  have HB := Aside0.mk (Below.refl w.heap.size w)
  have H : ((carrefourref01_Signed.f k a0 a2).bind fun bt363 => ((carrefourref01_Signed.f k a1 false).bind fun bt365 => (if bt363.2 = 0 then (if bt365.2 = 0 then (some (bt363.1, bt365.1, 0)) else (some (0, 0, 2))) else (some (0, 0, 2))))) = some (r1, r2, r3) := h
  clear h
  replace H := bi_ H; obtain ⟨⟨t363, t364⟩, A4, H⟩ := H
  (try dsimp only at H)
  replace H := bi_ H; obtain ⟨⟨t365, t366⟩, A5, H⟩ := H
  (try dsimp only at H)
  by_cases c6 : t364 = 0
  · rw [if_pos c6] at H
    have c6b0 : (t364 == 0) = true := beq_iff_eq.mpr c6
    have c6b1 : (t364 != 0) = false := bne_eq_false_iff_eq.mpr c6
    clear c6
    by_cases c7 : t366 = 0
    · rw [if_pos c7] at H
      have c7b0 : (t366 == 0) = true := beq_iff_eq.mpr c7
      have c7b1 : (t366 != 0) = false := bne_eq_false_iff_eq.mpr c7
      clear c7
      simp only [Option.some.injEq, Prod.mk.injEq] at H
      obtain ⟨rfl, rfl, rfl⟩ := H
      go_enter Tryd.func48, Tryd.ntmps48
      go_wp2_with (first | ((with_reducible refine gd 6 rfl ?_); refine bx_ 6 23 #[.int .i64 0, .int .i64 0] rfl rfl ?_; intro gb362 hg w8 BK362 hb; have GE362 := bz HB hg; replace HB := bs HB hb; clear hb hg) | ((with_reducible refine gc 72 rfl ?_); refine gm_ (some 15) rfl rfl Tryd.func72 (carrefourref01_Signed.calls _ _ _ _ _ _ A4.out) ag ?_; rintro w' ⟨nd, rfl⟩; (try (rw [drewN_self w8]; generalize hq_ : World.drewN w8 _ = w8; have n0_ : Aside0 (w8.heap[gb362]? = some (.cells #[.int .i64 0, .int .i64 0] 23 (0, 0))) := ⟨by rw [← hq_]; exact (bx BK362)⟩; have n1_ : Aside0 (Below w.heap.size w w8) := ⟨by rw [← hq_]; exact (bf HB)⟩; clear BK362 HB hq_; have BK362 := n0_; have HB := n1_; clear n0_ n1_))) | ((with_reducible refine gc 72 rfl ?_); refine gm_ (some 20) rfl rfl Tryd.func72 (carrefourref01_Signed.calls _ _ _ _ _ _ A5.out) ag ?_; rintro w' ⟨nd, rfl⟩; (try (rw [drewN_self w8]; generalize hq_ : World.drewN w8 _ = w8; have n0_ : Aside0 (w8.heap[gb362]? = some (.cells #[.int .i64 0, .int .i64 0] 23 (0, 0))) := ⟨by rw [← hq_]; exact (bx BK362)⟩; have n1_ : Aside0 (Below w.heap.size w w8) := ⟨by rw [← hq_]; exact (bf HB)⟩; clear BK362 HB hq_; have BK362 := n0_; have HB := n1_; clear n0_ n1_)); have hcz9 := X.k2 BK362))
      refine bodyPost_ret (results_ct rfl _ _ gb362 23 #[.int .i64 t363, .int .i64 t365] (0, 0) _ rfl (br_ BK362) Tryd.underlying23 rfl (by kernel_rfl)) rfl ?_
      exact ⟨ae, bf HB⟩
    · rw [if_neg c7] at H
      have c7b0 : (t366 == 0) = false := beq_eq_false_iff_ne.mpr c7
      have c7b1 : (t366 != 0) = true := bne_iff_ne.mpr c7
      simp only [Option.some.injEq, Prod.mk.injEq] at H
      obtain ⟨rfl, rfl, rfl⟩ := H
      go_enter Tryd.func48, Tryd.ntmps48
      go_wp2_with (first | ((with_reducible refine gd 6 rfl ?_); refine bx_ 6 23 #[.int .i64 0, .int .i64 0] rfl rfl ?_; intro gb362 hg w10 BK362 hb; have GE362 := bz HB hg; replace HB := bs HB hb; clear hb hg) | ((with_reducible refine gc 72 rfl ?_); refine gm_ (some 15) rfl rfl Tryd.func72 (carrefourref01_Signed.calls _ _ _ _ _ _ A4.out) ag ?_; rintro w' ⟨nd, rfl⟩; (try (rw [drewN_self w10]; generalize hq_ : World.drewN w10 _ = w10; have n0_ : Aside0 (w10.heap[gb362]? = some (.cells #[.int .i64 0, .int .i64 0] 23 (0, 0))) := ⟨by rw [← hq_]; exact (bx BK362)⟩; have n1_ : Aside0 (Below w.heap.size w w10) := ⟨by rw [← hq_]; exact (bf HB)⟩; clear BK362 HB hq_; have BK362 := n0_; have HB := n1_; clear n0_ n1_))) | ((with_reducible refine gc 72 rfl ?_); refine gm_ (some 20) rfl rfl Tryd.func72 (carrefourref01_Signed.calls _ _ _ _ _ _ A5.out) ag ?_; rintro w' ⟨nd, rfl⟩; (try (rw [drewN_self w10]; generalize hq_ : World.drewN w10 _ = w10; have n0_ : Aside0 (w10.heap[gb362]? = some (.cells #[.int .i64 0, .int .i64 0] 23 (0, 0))) := ⟨by rw [← hq_]; exact (bx BK362)⟩; have n1_ : Aside0 (Below w.heap.size w w10) := ⟨by rw [← hq_]; exact (bf HB)⟩; clear BK362 HB hq_; have BK362 := n0_; have HB := n1_; clear n0_ n1_)); have hcz11 := X.k2 BK362))
      refine bodyPost_ret (results_ct rfl _ _ gb362 23 #[.int .i64 0, .int .i64 0] (0, 0) _ rfl (br_ BK362) Tryd.underlying23 rfl (by kernel_rfl)) rfl ?_
      exact ⟨ae, bf HB⟩
  · rw [if_neg c6] at H
    have c6b0 : (t364 == 0) = false := beq_eq_false_iff_ne.mpr c6
    have c6b1 : (t364 != 0) = true := bne_iff_ne.mpr c6
    simp only [Option.some.injEq, Prod.mk.injEq] at H
    obtain ⟨rfl, rfl, rfl⟩ := H
    go_enter Tryd.func48, Tryd.ntmps48
    go_wp2_with (first | ((with_reducible refine gd 6 rfl ?_); refine bx_ 6 23 #[.int .i64 0, .int .i64 0] rfl rfl ?_; intro gb362 hg w12 BK362 hb; have GE362 := bz HB hg; replace HB := bs HB hb; clear hb hg) | ((with_reducible refine gc 72 rfl ?_); refine gm_ (some 15) rfl rfl Tryd.func72 (carrefourref01_Signed.calls _ _ _ _ _ _ A4.out) ag ?_; rintro w' ⟨nd, rfl⟩; (try (rw [drewN_self w12]; generalize hq_ : World.drewN w12 _ = w12; have n0_ : Aside0 (w12.heap[gb362]? = some (.cells #[.int .i64 0, .int .i64 0] 23 (0, 0))) := ⟨by rw [← hq_]; exact (bx BK362)⟩; have n1_ : Aside0 (Below w.heap.size w w12) := ⟨by rw [← hq_]; exact (bf HB)⟩; clear BK362 HB hq_; have BK362 := n0_; have HB := n1_; clear n0_ n1_))) | ((with_reducible refine gc 72 rfl ?_); refine gm_ (some 20) rfl rfl Tryd.func72 (carrefourref01_Signed.calls _ _ _ _ _ _ A5.out) ag ?_; rintro w' ⟨nd, rfl⟩; (try (rw [drewN_self w12]; generalize hq_ : World.drewN w12 _ = w12; have n0_ : Aside0 (w12.heap[gb362]? = some (.cells #[.int .i64 0, .int .i64 0] 23 (0, 0))) := ⟨by rw [← hq_]; exact (bx BK362)⟩; have n1_ : Aside0 (Below w.heap.size w w12) := ⟨by rw [← hq_]; exact (bf HB)⟩; clear BK362 HB hq_; have BK362 := n0_; have HB := n1_; clear n0_ n1_)); have hcz13 := X.k2 BK362))
    refine bodyPost_ret (results_ct rfl _ _ gb362 23 #[.int .i64 0, .int .i64 0] (0, 0) _ rfl (br_ BK362) Tryd.underlying23 rfl (by kernel_rfl)) rfl ?_
    exact ⟨ae, bf HB⟩

/-! ### carrefourref02_Of: function 19 -/
def carrefourref02_Of.T6 : Bool × List (List Nat × List Nat) := (true, [([], []), ([], []), ([0, 1], [0, 1]), ([], []), ([], []), ([3, 4], [3, 4]), ([], []), ([6], [6]), ([7], [7]), ([8], [8]), ([9, 8], [8, 9]), ([8], [8]), ([11, 8], [8, 11]), ([10, 12, 8], [8, 10, 12]), ([8, 13], [8, 13]), ([2, 5, 14, 8], [2, 5, 14]), ([15], [15]), ([15], [15]), ([16, 15, 0, 1, 2, 3, 4, 5, 6, 7, 8, 9, 10, 11, 12, 13, 14, 15, 16, 17], [16]), ([17, 18, 0, 1, 2, 3, 4, 5, 6, 7, 8, 9, 10, 11, 12, 13, 14, 15, 16, 17, 18], [17])])
def carrefourref02_Of.B6 : List Nat := [0, 0, 3, 0, 0, 24, 0, 64, 192, 448, 960, 448, 2496, 8128, 16320, 32767, 65535, 65535, 262143, 524287]
theorem carrefourref02_Of.tab6 : rtab .any (opsOf Tryd.f19 6) = carrefourref02_Of.T6 := by kernel_rfl
theorem carrefourref02_Of.bits6 : waitsOk carrefourref02_Of.T6.2 carrefourref02_Of.B6 = true := by kernel_rfl
theorem carrefourref02_Of.calls (k : Nat) (a0 : Int) (a1 : Int) (r1 : Int) (r2 : Int) (r3 : Int) (w : World) (h : carrefourref02_Of.f k a0 a1 = some (r1, r2, r3)) :
    Calls Tryd.prog 19 #[.int .i64 a0, .int .i64 a1] w fun e w' => e = .returned (.tuple #[.agg #[.int .i64 r1, .int .i64 r2], .int .i64 r3]) ∧ Below w.heap.size w w' := by
  have hu23 := Tryd.underlying23
  have HB := Aside0.mk (Below.refl w.heap.size w)
  have H : (if a1 = 0 then (some (0, 0, 3)) else ((carrefourref01_Size.f a0).bind fun t368 => ((carrefourref01_Size.f a1).bind fun t369 => ((carrefourref02_gcd.f k t368 t369).bind fun t370 => (if t370 = 0 then (none) else (if a0 = 0 then ((carrefourref02_made.f k (IntKind.u64.wrap (Int.tdiv t368 t370)) (IntKind.u64.wrap (Int.tdiv t369 t370)) false).bind fun bt371 => (some (bt371.1, bt371.2.1, bt371.2.2))) else ((carrefourref02_made.f k (IntKind.u64.wrap (Int.tdiv t368 t370)) (IntKind.u64.wrap (Int.tdiv t369 t370)) ((decide (a0 < 0)) != (decide (a1 < 0)))).bind fun bt374 => (some (bt374.1, bt374.2.1, bt374.2.2))))))))) = some (r1, r2, r3) := h
  clear h
  by_cases c3 : a1 = 0
  · rw [if_pos c3] at H
    have c3b0 : (a1 == 0) = true := beq_iff_eq.mpr c3
    have c3b1 : (a1 != 0) = false := bne_eq_false_iff_eq.mpr c3
    clear c3
    simp only [Option.some.injEq, Prod.mk.injEq] at H
    obtain ⟨rfl, rfl, rfl⟩ := H
    go_enter Tryd.func19, Tryd.ntmps19
    go_wp2_with (first | ((with_reducible refine gd 4 rfl ?_); refine bx_ 4 23 #[.int .i64 0, .int .i64 0] rfl rfl ?_; intro gb367 hg w4 BK367 hb; have GE367 := bz HB hg; replace HB := bs HB hb; clear hb hg; have hcz5 := X.k2 BK367))
    refine bodyPost_ret (results_ct rfl _ _ gb367 23 #[.int .i64 0, .int .i64 0] (0, 0) _ rfl (br_ BK367) Tryd.underlying23 rfl (by kernel_rfl)) rfl ?_
    exact ⟨ae, bf HB⟩
  · rw [if_neg c3] at H
    have c3b0 : (a1 == 0) = false := beq_eq_false_iff_ne.mpr c3
    have c3b1 : (a1 != 0) = true := bne_iff_ne.mpr c3
    replace H := bi_ H; obtain ⟨t368, A6, H⟩ := H
    (try dsimp only at H)
    replace H := bi_ H; obtain ⟨t369, A7, H⟩ := H
    (try dsimp only at H)
    replace H := bi_ H; obtain ⟨t370, A8, H⟩ := H
    (try dsimp only at H)
    by_cases c9 : t370 = 0
    · rw [if_pos c9] at H
      exact absurd H (by simp)
    · rw [if_neg c9] at H
      have c9b0 : (t370 == 0) = false := beq_eq_false_iff_ne.mpr c9
      have c9b1 : (t370 != 0) = true := bne_iff_ne.mpr c9
      by_cases c10 : a0 = 0
      · rw [if_pos c10] at H
        have c10b0 : (a0 == 0) = true := beq_iff_eq.mpr c10
        have c10b1 : (a0 != 0) = false := bne_eq_false_iff_eq.mpr c10
        clear c10
        replace H := bi_ H; obtain ⟨⟨t371, t372, t373⟩, A11, H⟩ := H
        (try dsimp only at H)
        simp only [Option.some.injEq, Prod.mk.injEq] at H
        obtain ⟨rfl, rfl, rfl⟩ := H
        go_enter Tryd.func19, Tryd.ntmps19
        try go_wp2_with (first | ((with_reducible refine gd 4 rfl ?_); refine bx_ 4 23 #[.int .i64 0, .int .i64 0] rfl rfl ?_; intro gb367 hg w12 BK367 hb; have GE367 := bz HB hg; replace HB := bs HB hb; clear hb hg) | ((with_reducible refine gc 22 rfl ?_); refine gm_ (some 13) rfl rfl Tryd.func22 (carrefourref01_Size.calls _ _ _ A6.out) ag ?_; rintro w' ⟨nd, rfl⟩; (try (rw [drewN_self w12]; generalize hq_ : World.drewN w12 _ = w12; have n0_ : Aside0 (w12.heap[gb367]? = some (.cells #[.int .i64 0, .int .i64 0] 23 (0, 0))) := ⟨by rw [← hq_]; exact (bx BK367)⟩; have n1_ : Aside0 (Below w.heap.size w w12) := ⟨by rw [← hq_]; exact (bf HB)⟩; clear BK367 HB hq_; have BK367 := n0_; have HB := n1_; clear n0_ n1_))) | ((with_reducible refine gc 22 rfl ?_); refine gm_ (some 15) rfl rfl Tryd.func22 (carrefourref01_Size.calls _ _ _ A7.out) ag ?_; rintro w' ⟨nd, rfl⟩; (try (rw [drewN_self w12]; generalize hq_ : World.drewN w12 _ = w12; have n0_ : Aside0 (w12.heap[gb367]? = some (.cells #[.int .i64 0, .int .i64 0] 23 (0, 0))) := ⟨by rw [← hq_]; exact (bx BK367)⟩; have n1_ : Aside0 (Below w.heap.size w w12) := ⟨by rw [← hq_]; exact (bf HB)⟩; clear BK367 HB hq_; have BK367 := n0_; have HB := n1_; clear n0_ n1_))) | ((with_reducible refine gc 47 rfl ?_); refine gm_ (some 18) rfl rfl Tryd.func47 (carrefourref02_gcd.calls _ _ _ _ _ A8.out) ag ?_; rintro w' ⟨nd, rfl⟩; (try (rw [drewN_self w12]; generalize hq_ : World.drewN w12 _ = w12; have n0_ : Aside0 (w12.heap[gb367]? = some (.cells #[.int .i64 0, .int .i64 0] 23 (0, 0))) := ⟨by rw [← hq_]; exact (bx BK367)⟩; have n1_ : Aside0 (Below w.heap.size w w12) := ⟨by rw [← hq_]; exact (bf HB)⟩; clear BK367 HB hq_; have BK367 := n0_; have HB := n1_; clear n0_ n1_))))
        replace BK367 := Aside0.mk (blk_drew BK367.out)
        replace HB := Aside0.mk (below_drew1 HB.out)
        refine start_ (n := 20) (S := fun w' => True) (ds := []) (m_ 20 0) (by kernel_rfl) rfl rfl trivial (fun hHeld => ?_); refine with_tabW carrefourref02_Of.tab6 carrefourref02_Of.bits6 (fun HT_ HW_ => ?_)
        generalize w12.drew = w13 at BK367 HB hHeld ⊢
        refine pu_ 0 (some 19) (m_ 20 1) rfl rfl (ao HT_) ?_
        refine pu_ 1 (some 20) (m_ 20 3) rfl rfl (ao HT_) ?_
        refine pu_ 2 (some 21) (m_ 20 7) rfl rfl (ao HT_) ?_
        refine pu_ 3 (some 22) (m_ 20 15) rfl rfl (ao HT_) ?_
        refine pu_ 4 (some 23) (m_ 20 31) rfl rfl (ao HT_) ?_
        refine pu_ 5 (some 24) (m_ 20 63) rfl rfl (ao HT_) ?_
        refine pu_ 6 (some 25) (m_ 20 127) rfl rfl (ao HT_) ?_
        refine pu_ 7 (some 26) (m_ 20 255) rfl rfl (ao HT_) ?_
        refine pu_ 8 (some 27) (m_ 20 511) rfl rfl (ao HT_) ?_
        refine pv_ 9 (some 28) (m_ 20 1023) rfl rfl (ao HT_) ?_
        refine pv_ 10 (some 29) (m_ 20 2047) rfl rfl (ao HT_) ?_
        refine pv_ 11 (some 30) (m_ 20 4095) rfl rfl (ao HT_) ?_
        refine pv_ 12 (some 31) (m_ 20 8191) rfl rfl (ao HT_) ?_
        refine pv_ 13 (some 32) (m_ 20 16383) rfl rfl (ao HT_) ?_
        refine pu_ 14 (some 33) (m_ 20 32767) rfl rfl (ao HT_) ?_
        refine o1_ 15 (some 34) (m_ 20 65535) rfl rfl (oo HT_) (fun K hK => ?_)
        refine gs_ rfl Tryd.func48 (carrefourref02_made.calls _ (IntKind.u64.wrap (Int.tdiv t368 t370)) (IntKind.u64.wrap (Int.tdiv t369 t370)) _ _ _ _ _ A11.out) ag ?_
        intro w14 hb
        replace BK367 := bb BK367 hb
        replace HB := bs HB hb
        (try clear hb)
        refine hK.out _ _ trivial (fun hHeld => ?_)
        clear hK K
        refine nr_ (some 34) ?_
        refine pu_ 16 (some 35) (m_ 20 131071) rfl rfl (ao HT_) ?_
        refine pu_ 17 (some 36) (m_ 20 262143) rfl rfl (ao HT_) ?_
        refine o1_ 18 (none) (m_ 20 524287) rfl rfl (oo HT_) (fun K hK => ?_)
        have hs15 : c_ w14 gb367 0 (.int .i64 0) := ct BK367 0
        have hfs15 := blk_frozen BK367.out 0
        have hs16 : c_ w14 gb367 1 (.int .i64 0) := ct BK367 1
        have hfs16 := blk_frozen BK367.out 1
        refine skip_ (w1 := ?_) (by rfl) rfl ?_ ?_
        rotate_left
        · go_simp
          rfl
        refine hK.out _ _ trivial (fun hHeld => ?_)
        clear hK K
        refine pu_ 19 (some 5) (m_ 20 1048575) rfl rfl (ao HT_) ?_
        refine done_ (done_of HT_.out (by kernel_rfl)) ?_
        try go_wp2
        refine bodyPost_ret (results_ct rfl _ _ gb367 23 #[.int .i64 t371, .int .i64 t372] (0, 0) _ rfl (br_ BK367) Tryd.underlying23 rfl (by kernel_rfl)) rfl ?_
        exact ⟨ae, bf HB⟩
      · rw [if_neg c10] at H
        have c10b0 : (a0 == 0) = false := beq_eq_false_iff_ne.mpr c10
        have c10b1 : (a0 != 0) = true := bne_iff_ne.mpr c10
        replace H := bi_ H; obtain ⟨⟨t374, t375, t376⟩, A17, H⟩ := H
        (try dsimp only at H)
        simp only [Option.some.injEq, Prod.mk.injEq] at H
        obtain ⟨rfl, rfl, rfl⟩ := H
        go_enter Tryd.func19, Tryd.ntmps19
        try go_wp2_with (first | ((with_reducible refine gd 4 rfl ?_); refine bx_ 4 23 #[.int .i64 0, .int .i64 0] rfl rfl ?_; intro gb367 hg w18 BK367 hb; have GE367 := bz HB hg; replace HB := bs HB hb; clear hb hg) | ((with_reducible refine gc 22 rfl ?_); refine gm_ (some 13) rfl rfl Tryd.func22 (carrefourref01_Size.calls _ _ _ A6.out) ag ?_; rintro w' ⟨nd, rfl⟩; (try (rw [drewN_self w18]; generalize hq_ : World.drewN w18 _ = w18; have n0_ : Aside0 (w18.heap[gb367]? = some (.cells #[.int .i64 0, .int .i64 0] 23 (0, 0))) := ⟨by rw [← hq_]; exact (bx BK367)⟩; have n1_ : Aside0 (Below w.heap.size w w18) := ⟨by rw [← hq_]; exact (bf HB)⟩; clear BK367 HB hq_; have BK367 := n0_; have HB := n1_; clear n0_ n1_))) | ((with_reducible refine gc 22 rfl ?_); refine gm_ (some 15) rfl rfl Tryd.func22 (carrefourref01_Size.calls _ _ _ A7.out) ag ?_; rintro w' ⟨nd, rfl⟩; (try (rw [drewN_self w18]; generalize hq_ : World.drewN w18 _ = w18; have n0_ : Aside0 (w18.heap[gb367]? = some (.cells #[.int .i64 0, .int .i64 0] 23 (0, 0))) := ⟨by rw [← hq_]; exact (bx BK367)⟩; have n1_ : Aside0 (Below w.heap.size w w18) := ⟨by rw [← hq_]; exact (bf HB)⟩; clear BK367 HB hq_; have BK367 := n0_; have HB := n1_; clear n0_ n1_))) | ((with_reducible refine gc 47 rfl ?_); refine gm_ (some 18) rfl rfl Tryd.func47 (carrefourref02_gcd.calls _ _ _ _ _ A8.out) ag ?_; rintro w' ⟨nd, rfl⟩; (try (rw [drewN_self w18]; generalize hq_ : World.drewN w18 _ = w18; have n0_ : Aside0 (w18.heap[gb367]? = some (.cells #[.int .i64 0, .int .i64 0] 23 (0, 0))) := ⟨by rw [← hq_]; exact (bx BK367)⟩; have n1_ : Aside0 (Below w.heap.size w w18) := ⟨by rw [← hq_]; exact (bf HB)⟩; clear BK367 HB hq_; have BK367 := n0_; have HB := n1_; clear n0_ n1_))))
        replace BK367 := Aside0.mk (blk_drew BK367.out)
        replace HB := Aside0.mk (below_drew1 HB.out)
        refine start_ (n := 20) (S := fun w' => True) (ds := []) (m_ 20 0) (by kernel_rfl) rfl rfl trivial (fun hHeld => ?_); refine with_tabW carrefourref02_Of.tab6 carrefourref02_Of.bits6 (fun HT_ HW_ => ?_)
        generalize w18.drew = w19 at BK367 HB hHeld ⊢
        refine pu_ 0 (some 19) (m_ 20 1) rfl rfl (ao HT_) ?_
        refine pu_ 1 (some 20) (m_ 20 3) rfl rfl (ao HT_) ?_
        refine pu_ 2 (some 21) (m_ 20 7) rfl rfl (ao HT_) ?_
        refine pu_ 3 (some 22) (m_ 20 15) rfl rfl (ao HT_) ?_
        refine pu_ 4 (some 23) (m_ 20 31) rfl rfl (ao HT_) ?_
        refine pu_ 5 (some 24) (m_ 20 63) rfl rfl (ao HT_) ?_
        refine pu_ 6 (some 25) (m_ 20 127) rfl rfl (ao HT_) ?_
        refine pu_ 7 (some 26) (m_ 20 255) rfl rfl (ao HT_) ?_
        refine pu_ 8 (some 27) (m_ 20 511) rfl rfl (ao HT_) ?_
        refine pu_ 9 (some 28) (m_ 20 1023) rfl rfl (ao HT_) ?_
        refine pu_ 10 (some 29) (m_ 20 2047) rfl rfl (ao HT_) ?_
        refine pu_ 11 (some 30) (m_ 20 4095) rfl rfl (ao HT_) ?_
        refine pu_ 12 (some 31) (m_ 20 8191) rfl rfl (ao HT_) ?_
        refine pu_ 13 (some 32) (m_ 20 16383) rfl rfl (ao HT_) ?_
        refine pu_ 14 (some 33) (m_ 20 32767) rfl rfl (ao HT_) ?_
        refine o1_ 15 (some 34) (m_ 20 65535) rfl rfl (oo HT_) (fun K hK => ?_)
        refine gs_ rfl Tryd.func48 (carrefourref02_made.calls _ (IntKind.u64.wrap (Int.tdiv t368 t370)) (IntKind.u64.wrap (Int.tdiv t369 t370)) ((decide (a0 < 0)) != (decide (a1 < 0))) _ _ _ _ A17.out) ag ?_
        intro w20 hb
        replace BK367 := bb BK367 hb
        replace HB := bs HB hb
        (try clear hb)
        refine hK.out _ _ trivial (fun hHeld => ?_)
        clear hK K
        refine nr_ (some 34) ?_
        refine pu_ 16 (some 35) (m_ 20 131071) rfl rfl (ao HT_) ?_
        refine pu_ 17 (some 36) (m_ 20 262143) rfl rfl (ao HT_) ?_
        refine o1_ 18 (none) (m_ 20 524287) rfl rfl (oo HT_) (fun K hK => ?_)
        have hs21 : c_ w20 gb367 0 (.int .i64 0) := ct BK367 0
        have hfs21 := blk_frozen BK367.out 0
        have hs22 : c_ w20 gb367 1 (.int .i64 0) := ct BK367 1
        have hfs22 := blk_frozen BK367.out 1
        refine skip_ (w1 := ?_) (by rfl) rfl ?_ ?_
        rotate_left
        · go_simp
          rfl
        refine hK.out _ _ trivial (fun hHeld => ?_)
        clear hK K
        refine pu_ 19 (some 5) (m_ 20 1048575) rfl rfl (ao HT_) ?_
        refine done_ (done_of HT_.out (by kernel_rfl)) ?_
        try go_wp2
        refine bodyPost_ret (results_ct rfl _ _ gb367 23 #[.int .i64 t374, .int .i64 t375] (0, 0) _ rfl (br_ BK367) Tryd.underlying23 rfl (by kernel_rfl)) rfl ?_
        exact ⟨ae, bf HB⟩

/-! ### carrefourref02_trim: function 20 -/
theorem carrefourref02_trim.calls (k : Nat) (A0 : Option Addr) (c0 : Nat) (l0 : List Int) (r : List Int) (w : World) (hr0 : Kd.C (Kd.int .u64) w A0 l0.length l0) (hc0 : l0.length ≤ c0) (h : carrefourref02_trim.f k l0 = some r) :
    Calls Tryd.prog 20 #[.slice A0 l0.length c0] w fun e w' => ∃ v0_ : Value, e = .returned (v0_) ∧ Kd.R (Kd.int .u64) 48 w' w.heap.size (fun _ => True) v0_ r ∧ Below w.heap.size w w' := by
  have HR0 := Aside0.mk hr0
  have HC0 := Aside0.mk hc0
  clear hr0 hc0
  have HB := Aside0.mk (Below.refl w.heap.size w)
  have H : (carrefourref02_trim.l0 k l0 (l0.length : Int)) = some r := h
  clear h
  have H' := Aside0.mk H
  clear H
  go_enter Tryd.func20, Tryd.ntmps20
  go_wp2
  go_loopg [3] k (fun kq v3 w' => ∃ (x3_1 : Int), v3 = .int .i64 x3_1 ∧ Aside0 (carrefourref02_trim.l0 kq l0 x3_1 = some r) ∧ Aside0 (kq ≤ k) ∧ Aside0 (Below w.heap.size w w'))
  case atStart => exact ⟨((l0.length : Int)), (aq), H', ⟨Nat.le_refl _⟩, ⟨bf HB⟩⟩
  case round =>
    clear H'
    obtain ⟨x3_1, rfl, HA, HK1, HB⟩ := hrel
    cases gk with
    | zero => exact absurd HA.out (by simp [carrefourref02_trim.l0])
    | succ k1 =>
      have H := HA.out
      clear HA
      simp only [carrefourref02_trim.l0] at H
      by_cases c2 : x3_1 > 0
      · rw [if_pos c2] at H
        have c2b0 : decide (0 < x3_1) = true := decide_eq_true c2
        clear c2
        obtain ⟨ji3, hji3⟩ : ∃ j_ : Int, (wrap64 (x3_1 - 1)) = j_ := ⟨_, rfl⟩
        replace H : (if 0 ≤ (ji3) then (if (ji3) < (l0.length : Int) then (if (rd l0 (ji3)) = 0 then (carrefourref02_trim.l0 k1 l0 ji3) else ((some (([] : List Int) : List Int)).bind fun y378 => (if 0 ≤ x3_1 then (if x3_1 ≤ (l0.length : Int) then (if y378.length + (l0.take (x3_1 : Int).toNat).length < 17592186044416 then (some (y378 ++ (l0.take (x3_1 : Int).toNat))) else (none)) else (none)) else (none)))) else (none)) else (none)) = some r := by first | (rw [hji3] at H; exact H) | (simp only [hji3] at H ⊢; exact H)
        have hji3w : (IntKind.i64.wrap (x3_1 - 1)) = ji3 := (i64_w _).trans hji3
        by_cases c4 : 0 ≤ (ji3)
        · rw [if_pos c4] at H
          have c4b0 : decide (0 ≤ (ji3)) = true := decide_eq_true c4
          clear c4
          by_cases c5 : (ji3) < (l0.length : Int)
          · rw [if_pos c5] at H
            have c5b0 : decide ((ji3) < (l0.length : Int)) = true := decide_eq_true c5
            clear c5
            by_cases c6 : (rd l0 (ji3)) = 0
            · rw [if_pos c6] at H
              have c6b0 : ((rd l0 (ji3)) == 0) = true := beq_iff_eq.mpr c6
              have c6b1 : ((rd l0 (ji3)) != 0) = false := bne_eq_false_iff_eq.mpr c6
              clear c6
              have H' := Aside0.mk H
              clear H
              have p377 : 0 ≤ ((ji3) : Int) := of_decide_eq_true (by first | (with_reducible assumption) | assumption)
              have q377 : (ji3) < (l0.length : Int) := of_decide_eq_true (by first | (with_reducible assumption) | assumption)
              obtain ⟨ad377, e377, hx377_0⟩ := Kd.at_int HR0.out (ji3) p377 q377
              cases e377
              replace hx377_0 := (HB.out.cell (World.block_lt_of_cell? w _ hx377_0)).trans hx377_0
              replace p377 := eq_true p377
              replace q377 := eq_true q377
              go_wp2
              go_roundg k1
              case measure => have := HK1.out; omega
              case rel => exact ⟨(ji3), (by first | rfl | (simp; done) | (simp only [← hji3] <;> (first | rfl | simp)) | (simp [*]; done)), H', ⟨by have := HK1.out; omega⟩, ⟨bf HB⟩⟩
            · rw [if_neg c6] at H
              have c6b0 : ((rd l0 (ji3)) == 0) = false := beq_eq_false_iff_ne.mpr c6
              have c6b1 : ((rd l0 (ji3)) != 0) = true := bne_iff_ne.mpr c6
              obtain ⟨y378, hy378⟩ : ∃ y_ : List Int, y_ = (([] : List Int)) := ⟨_, rfl⟩
              replace H : (if 0 ≤ x3_1 then (if x3_1 ≤ (l0.length : Int) then (if y378.length + (l0.take (x3_1 : Int).toNat).length < 17592186044416 then (some (y378 ++ (l0.take (x3_1 : Int).toNat))) else (none)) else (none)) else (none)) = some r := by first | (rw [hy378]; with_reducible exact H) | (have H2_ := (Option.bind_some _ _).symm.trans H; rw [hy378]; with_reducible exact H2_) | (have H2_ := (Option.bind_some _ _).symm.trans H; with_reducible exact H2_) | with_reducible exact H | (rw [hy378]; exact H) | exact H
              have Ny378 := Aside0.mk hy378
              clear hy378
              by_cases c7 : 0 ≤ x3_1
              · rw [if_pos c7] at H
                have c7b0 := eq_true c7
                have c7b1 : decide (0 ≤ x3_1) = true := decide_eq_true c7
                clear c7
                by_cases c8 : x3_1 ≤ (l0.length : Int)
                · rw [if_pos c8] at H
                  have c8b0 := eq_true c8
                  have c8b1 : decide (x3_1 ≤ (l0.length : Int)) = true := decide_eq_true c8
                  clear c8
                  by_cases c9 : y378.length + (l0.take (x3_1 : Int).toNat).length < 17592186044416
                  · rw [if_pos c9] at H
                    have LMc9 := Aside0.mk c9
                    clear c9
                    obtain ⟨y382, hy382⟩ : ∃ y_ : List Int, y_ = (y378 ++ (l0.take (x3_1 : Int).toNat)) := ⟨_, rfl⟩
                    replace H : (some y382) = some r := by first | (rw [hy382]; with_reducible exact H) | (have H2_ := (Option.bind_some _ _).symm.trans H; rw [hy382]; with_reducible exact H2_) | (have H2_ := (Option.bind_some _ _).symm.trans H; with_reducible exact H2_) | with_reducible exact H | (rw [hy382]; exact H) | exact H
                    have Ny382 := Aside0.mk hy382
                    clear hy382
                    obtain rfl := Option.some.inj H
                    have p377 : 0 ≤ ((ji3) : Int) := of_decide_eq_true (by first | (with_reducible assumption) | assumption)
                    have q377 : (ji3) < (l0.length : Int) := of_decide_eq_true (by first | (with_reducible assumption) | assumption)
                    obtain ⟨ad377, e377, hx377_0⟩ := Kd.at_int HR0.out (ji3) p377 q377
                    cases e377
                    replace hx377_0 := (HB.out.cell (World.block_lt_of_cell? w _ hx377_0)).trans hx377_0
                    replace p377 := eq_true p377
                    replace q377 := eq_true q377
                    go_wp2_with (first | ((with_reducible refine gate_dst (N := 18) rfl ?_); refine Kd.R_lit (Kd.int .u64) _ 48 ?hg (N := 18) ?hd (xs := ([] : List Int)) (inner := []) (ok := fun _ => True) (okp := fun _ => True) ?hr ?hp (fun _ hk => hk) trivial (Below.refl _ _) (Nat.le_refl _) (by simp) ?_; (case hd => rfl); (case hg => rfl); (case hr => first | (go_simp; done) | (go_simp; rfl)); (case hp => exact (Reps.none _ _)); intro v379 w10 ho11 hb hg_ hnew_; clear hg_ hnew_; (first | rw [← Ny378.out] at ho11 | (simp only [Int.reduceToNat] at ho11; rw [← Ny378.out] at ho11)); have HO380 := Aside0.mk (Kd.R_lower ho11 (below_size (bf HB))); replace HB := bs HB hb; clear hb ho11; obtain ⟨i012, hi012, _, hsz12, _⟩ := info_parts info48; obtain ⟨hcut12, hA12, hC12⟩ := print_take_of (P := Tryd.prog) (Value.int .u64) 0 45 48 .i64 Tryd.underlying45 hi012 hsz12 (some ad377) c0 l0 x3_1 (of_decide_eq_true (by first | (with_reducible assumption) | assumption)) (of_decide_eq_true (by first | (with_reducible assumption) | assumption)) HC0.out; have HR381 := Aside0.mk (Kd.C_of_reads (h1 := fun _ => rfl) (hA12 _ (Kd.reads_of_C HR0.out))); have HC381 := Aside0.mk hC12; clear hA12 hC12 hi012 hsz12) | ((with_reducible refine gate_builtin (b := .append) (xs := #[.tmp 18, .tmp 21]) rfl ?_); at_builtin; refine Kd.R_append_rows (Kd.int .u64) (w0 := w) w.heap.size rfl (.tmp 18) (.tmp 21) 45 48 (.int .u64 0) 8 rfl Tryd.underlying45 info48 rfl (by decide) (by omega) v379 y378 (l0.take (x3_1 : Int).toNat) _ _ _ (fun _ => True) (fun _ => False) rfl rfl ?aO ?aR (fun _ _ h => h) (fun _ h => h.elim) ?aF ?aB ?aS ?aL ?_; (case aR => first | (refine cl_ (show (l0.take (x3_1 : Int).toNat).length = x3_1.toNat from (by rw [List.length_take]; have h_ : (x3_1 : Int) ≤ (l0.length : Int) := of_decide_eq_true (by first | (with_reducible assumption) | assumption); omega)) ?_; repeat (first | exact (Kd.C_below HR381.out HB.out) | (with_reducible refine Kd.C_alloc ?_ _) | (with_reducible refine Kd.C_drewN ?_ _) | (with_reducible refine Kd.C_drew ?_))) | (repeat (first | exact (Kd.C_below HR381.out HB.out) | (with_reducible refine Kd.C_alloc ?_ _) | (with_reducible refine Kd.C_drewN ?_ _) | (with_reducible refine Kd.C_drew ?_)))); (case aB => exact (bf HB)); (case aF => exact (fun _ _ => trivial)); (case aO => exact (by (with_reducible repeat (first | apply Kd.R_alloc | apply Kd.R_drewN | apply Kd.R_drew)); exact HO380.out)); (case aS => exact (below_size (bf HB))); (case aL => have := LMc9.out; have hlx_ := (show (l0.take (x3_1 : Int).toNat).length = x3_1.toNat from (by rw [List.length_take]; have h_ : (x3_1 : Int) ≤ (l0.length : Int) := of_decide_eq_true (by first | (with_reducible assumption) | assumption); omega)); omega); intro v383 w13 ho hb hg hat; rw [← Ny382.out] at ho; have n0_ := Aside0.mk (hb); have n1_ := Aside0.mk (ho); clear HB; clear HO380; have HB := n0_; have HO384 := n1_; clear n0_ n1_; clear ho hb hg hat))
                    go_ret
                    exact ⟨_, by first | rfl | (simp [errW_none, errW_some] <;> rfl) | (simp only [← hji3]; first | rfl | (simp [errW_none, errW_some] <;> rfl)) | (simp [*, errW_none, errW_some] <;> rfl), by (with_reducible repeat (first | apply Kd.R_alloc | apply Kd.R_drewN | apply Kd.R_drew)); exact HO384.out, bf HB⟩
                  · rw [if_neg c9] at H
                    exact absurd H (by simp)
                · rw [if_neg c8] at H
                  exact absurd H (by simp)
              · rw [if_neg c7] at H
                exact absurd H (by simp)
          · rw [if_neg c5] at H
            exact absurd H (by simp)
        · rw [if_neg c4] at H
          exact absurd H (by simp)
      · rw [if_neg c2] at H
        have c2b0 : decide (0 < x3_1) = false := decide_eq_false c2
        clear c2
        obtain ⟨y385, hy385⟩ : ∃ y_ : List Int, y_ = (([] : List Int)) := ⟨_, rfl⟩
        replace H : (if 0 ≤ x3_1 then (if x3_1 ≤ (l0.length : Int) then (if y385.length + (l0.take (x3_1 : Int).toNat).length < 17592186044416 then (some (y385 ++ (l0.take (x3_1 : Int).toNat))) else (none)) else (none)) else (none)) = some r := by first | (rw [hy385]; with_reducible exact H) | (have H2_ := (Option.bind_some _ _).symm.trans H; rw [hy385]; with_reducible exact H2_) | (have H2_ := (Option.bind_some _ _).symm.trans H; with_reducible exact H2_) | with_reducible exact H | (rw [hy385]; exact H) | exact H
        have Ny385 := Aside0.mk hy385
        clear hy385
        by_cases c14 : 0 ≤ x3_1
        · rw [if_pos c14] at H
          have c14b0 := eq_true c14
          have c14b1 : decide (0 ≤ x3_1) = true := decide_eq_true c14
          clear c14
          by_cases c15 : x3_1 ≤ (l0.length : Int)
          · rw [if_pos c15] at H
            have c15b0 := eq_true c15
            have c15b1 : decide (x3_1 ≤ (l0.length : Int)) = true := decide_eq_true c15
            clear c15
            by_cases c16 : y385.length + (l0.take (x3_1 : Int).toNat).length < 17592186044416
            · rw [if_pos c16] at H
              have LMc16 := Aside0.mk c16
              clear c16
              obtain ⟨y389, hy389⟩ : ∃ y_ : List Int, y_ = (y385 ++ (l0.take (x3_1 : Int).toNat)) := ⟨_, rfl⟩
              replace H : (some y389) = some r := by first | (rw [hy389]; with_reducible exact H) | (have H2_ := (Option.bind_some _ _).symm.trans H; rw [hy389]; with_reducible exact H2_) | (have H2_ := (Option.bind_some _ _).symm.trans H; with_reducible exact H2_) | with_reducible exact H | (rw [hy389]; exact H) | exact H
              have Ny389 := Aside0.mk hy389
              clear hy389
              obtain rfl := Option.some.inj H
              go_wp2_with (first | ((with_reducible refine gate_dst (N := 18) rfl ?_); refine Kd.R_lit (Kd.int .u64) _ 48 ?hg (N := 18) ?hd (xs := ([] : List Int)) (inner := []) (ok := fun _ => True) (okp := fun _ => True) ?hr ?hp (fun _ hk => hk) trivial (Below.refl _ _) (Nat.le_refl _) (by simp) ?_; (case hd => rfl); (case hg => rfl); (case hr => first | (go_simp; done) | (go_simp; rfl)); (case hp => exact (Reps.none _ _)); intro v386 w17 ho18 hb hg_ hnew_; clear hg_ hnew_; (first | rw [← Ny385.out] at ho18 | (simp only [Int.reduceToNat] at ho18; rw [← Ny385.out] at ho18)); have HO387 := Aside0.mk (Kd.R_lower ho18 (below_size (bf HB))); replace HB := bs HB hb; clear hb ho18; obtain ⟨i019, hi019, _, hsz19, _⟩ := info_parts info48; obtain ⟨hcut19, hA19, hC19⟩ := print_take_of (P := Tryd.prog) (Value.int .u64) 0 45 48 .i64 Tryd.underlying45 hi019 hsz19 A0 c0 l0 x3_1 (of_decide_eq_true (by first | (with_reducible assumption) | assumption)) (of_decide_eq_true (by first | (with_reducible assumption) | assumption)) HC0.out; have HR388 := Aside0.mk (Kd.C_of_reads (h1 := fun _ => rfl) (hA19 _ (Kd.reads_of_C HR0.out))); have HC388 := Aside0.mk hC19; clear hA19 hC19 hi019 hsz19) | ((with_reducible refine gate_builtin (b := .append) (xs := #[.tmp 18, .tmp 21]) rfl ?_); at_builtin; refine Kd.R_append_rows (Kd.int .u64) (w0 := w) w.heap.size rfl (.tmp 18) (.tmp 21) 45 48 (.int .u64 0) 8 rfl Tryd.underlying45 info48 rfl (by decide) (by omega) v386 y385 (l0.take (x3_1 : Int).toNat) _ _ _ (fun _ => True) (fun _ => False) rfl rfl ?aO ?aR (fun _ _ h => h) (fun _ h => h.elim) ?aF ?aB ?aS ?aL ?_; (case aR => first | (refine cl_ (show (l0.take (x3_1 : Int).toNat).length = x3_1.toNat from (by rw [List.length_take]; have h_ : (x3_1 : Int) ≤ (l0.length : Int) := of_decide_eq_true (by first | (with_reducible assumption) | assumption); omega)) ?_; repeat (first | exact (Kd.C_below HR388.out HB.out) | (with_reducible refine Kd.C_alloc ?_ _) | (with_reducible refine Kd.C_drewN ?_ _) | (with_reducible refine Kd.C_drew ?_))) | (repeat (first | exact (Kd.C_below HR388.out HB.out) | (with_reducible refine Kd.C_alloc ?_ _) | (with_reducible refine Kd.C_drewN ?_ _) | (with_reducible refine Kd.C_drew ?_)))); (case aB => exact (bf HB)); (case aF => exact (fun _ _ => trivial)); (case aO => exact (by (with_reducible repeat (first | apply Kd.R_alloc | apply Kd.R_drewN | apply Kd.R_drew)); exact HO387.out)); (case aS => exact (below_size (bf HB))); (case aL => have := LMc16.out; have hlx_ := (show (l0.take (x3_1 : Int).toNat).length = x3_1.toNat from (by rw [List.length_take]; have h_ : (x3_1 : Int) ≤ (l0.length : Int) := of_decide_eq_true (by first | (with_reducible assumption) | assumption); omega)); omega); intro v390 w20 ho hb hg hat; rw [← Ny389.out] at ho; have n0_ := Aside0.mk (hb); have n1_ := Aside0.mk (ho); clear HB; clear HO387; have HB := n0_; have HO391 := n1_; clear n0_ n1_; clear ho hb hg hat))
              go_ret
              exact ⟨_, ae, by (with_reducible repeat (first | apply Kd.R_alloc | apply Kd.R_drewN | apply Kd.R_drew)); exact HO391.out, bf HB⟩
            · rw [if_neg c16] at H
              exact absurd H (by simp)
          · rw [if_neg c15] at H
            exact absurd H (by simp)
        · rw [if_neg c14] at H
          exact absurd H (by simp)

end Go.Proofs.YtcdaedhphdmnoaaDoor.X
