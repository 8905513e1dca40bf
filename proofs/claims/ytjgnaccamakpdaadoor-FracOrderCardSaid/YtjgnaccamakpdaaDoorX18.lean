/- Walks: each '.calls' says that the Go function comes to what its Lean function tells. Conditions: as each theorem's head says. -/
import Derived.Test.YtjgnaccamakpdaaDoorXD
import Derived.Test.YtjgnaccamakpdaaDoorX0
import Derived.Test.YtjgnaccamakpdaaDoorX11
import Derived.Test.YtjgnaccamakpdaaDoorX12
import Derived.Test.YtjgnaccamakpdaaDoorX13
import Derived.Test.YtjgnaccamakpdaaDoorX14
import Derived.Test.YtjgnaccamakpdaaDoorX17
namespace Go.Proofs.YtjgnaccamakpdaaDoor.X
open Go.RowKit Go.Proofs.YtjgnaccamakpdaaDoorW.PrintWords Go.Proofs.YtjgnaccamakpdaaDoorW.PrintLast Go.Proofs.YtjgnaccamakpdaaDoorW.PrintMore
attribute [local go_sem] max2_int min2_int max_two min_two max_three min_three max_four min_four   -- for this text's walks alone
set_option linter.unusedVariables false
set_option maxHeartbeats 8000000
set_option maxRecDepth 100000
set_option linter.unusedSimpArgs false

/-! ### frac_Sub: function 12 -/
theorem frac_Sub.calls (k : Nat) (a0_0 : Int) (a0_1 : Int) (a1_0 : Int) (a1_1 : Int) (r1 : Int) (r2 : Int) (r3 : Int) (w : World) (h : frac_Sub.f k a0_0 a0_1 a1_0 a1_1 = some (r1, r2, r3)) (hT : TabOK w) :
    Calls Tryd.prog 12 #[.agg #[.int .i64 a0_0, .int .i64 a0_1], .agg #[.int .i64 a1_0, .int .i64 a1_1]] w fun e w' => e = .returned (.tuple #[.agg #[.int .i64 r1, .int .i64 r2], .int .i64 r3]) ∧ Below w.heap.size w w' := by
  have GT := Aside0.mk hT
  clear hT
  have hu23 := Tryd.underlying23
  have HB := Aside0.mk (Below.refl w.heap.size w)
  have H : ((frac_added_fn48.f k a0_0 a0_1 a1_0 a1_1).bind fun bt525 => (some (bt525.1, bt525.2.1, bt525.2.2))) = some (r1, r2, r3) := h
  clear h
  replace H := bi_ H; obtain ⟨⟨t525, t526, t527⟩, A3, H⟩ := H
  (try dsimp only at H)
  simp only [Option.some.injEq, Prod.mk.injEq] at H
  obtain ⟨rfl, rfl, rfl⟩ := H
  go_enter Tryd.func12, Tryd.ntmps12
  go_wp2_with (first | ((with_reducible refine gd 2 rfl ?_); refine bx_ 2 23 #[.int .i64 a0_0, .int .i64 a0_1] rfl rfl ?_; intro gb522 hg w4 BK522 hb; have GE522 := bz HB hg; replace HB := bs HB hb; clear hb hg) | ((with_reducible refine gd 3 rfl ?_); refine bx_ 3 23 #[.int .i64 a1_0, .int .i64 a1_1] rfl rfl ?_; intro gb523 hg w5 BK523 hb; have GE523 := bz HB hg; have ⟨NB522_523, NB523_522⟩ := nb BK522 hg; replace BK522 := bb BK522 hb; replace HB := bs HB hb; clear hb hg) | ((with_reducible refine gd 4 rfl ?_); refine bx_ 4 23 #[.int .i64 0, .int .i64 0] rfl rfl ?_; intro gb524 hg w6 BK524 hb; have GE524 := bz HB hg; have ⟨NB522_524, NB524_522⟩ := nb BK522 hg; have ⟨NB523_524, NB524_523⟩ := nb BK523 hg; replace BK522 := bb BK522 hb; replace BK523 := bb BK523 hb; replace HB := bs HB hb; clear hb hg; have hnb7 := nn NB522_523; have hnb8 := nn NB522_524; have hcz9 := k2 BK522; have hnb10 := nn NB523_524; have hcz11 := k2 BK523) | ((with_reducible refine gc 37 rfl ?_); refine gm_ (some 8) rfl rfl Tryd.func37 (frac_added_fn48.calls _ _ _ _ _ _ _ _ _ A3.out (tt GT)) ag ?_; intro w12 hb; replace BK524 := bb BK524 hb; replace HB := bs HB hb; (try clear hb); have hcz13 := k2 BK524))
  refine bodyPost_ret (results_ct rfl _ _ gb524 23 #[.int .i64 t525, .int .i64 t526] (0, 0) _ rfl (br_ BK524) Tryd.underlying23 rfl (by kernel_rfl)) rfl ?_
  exact ⟨ae, bf HB⟩

/-! ### carrefourref02_minus: function 49 -/
theorem carrefourref02_minus.calls (a0_0 : Int) (a0_1 : Int) (r1 : Int) (r2 : Int) (r3 : Bool) (w : World) (h : carrefourref02_minus.f a0_0 a0_1 = some (r1, r2, r3)) :
    Calls Tryd.prog 49 #[.agg #[.int .i64 a0_0, .int .i64 a0_1]] w fun e w' => e = .returned (.tuple #[.agg #[.int .i64 r1, .int .i64 r2], .bool r3]) ∧ Below w.heap.size w w' := by
  have hu23 := Tryd.underlying23
  have HB := Aside0.mk (Below.refl w.heap.size w)
  have H : (if a0_0 = (-9223372036854775808) then (some (a0_0, a0_1, false)) else (some (wrap64 (-a0_0), a0_1, true))) = some (r1, r2, r3) := h
  clear h
  by_cases c2 : a0_0 = (-9223372036854775808)
  · rw [if_pos c2] at H
    have c2b0 : (a0_0 == (-9223372036854775808)) = true := beq_iff_eq.mpr c2
    have c2b1 : (a0_0 != (-9223372036854775808)) = false := bne_eq_false_iff_eq.mpr c2
    clear c2
    simp only [Option.some.injEq, Prod.mk.injEq] at H
    obtain ⟨rfl, rfl, rfl⟩ := H
    go_enter Tryd.func49, Tryd.ntmps49
    go_wp2_with (first | ((with_reducible refine gd 1 rfl ?_); refine bx_ 1 23 #[.int .i64 a0_0, .int .i64 a0_1] rfl rfl ?_; intro gb528 hg w3 BK528 hb; have GE528 := bz HB hg; replace HB := bs HB hb; clear hb hg) | ((with_reducible refine gd 2 rfl ?_); refine bx_ 2 23 #[.int .i64 0, .int .i64 0] rfl rfl ?_; intro gb529 hg w4 BK529 hb; have GE529 := bz HB hg; have ⟨NB528_529, NB529_528⟩ := nb BK528 hg; replace BK528 := bb BK528 hb; replace HB := bs HB hb; clear hb hg; have hnb5 := nn NB528_529; have hcz6 := k2 BK528; have hcz7 := k2 BK529))
    refine bodyPost_ret (results_ct rfl _ _ gb529 23 #[.int .i64 a0_0, .int .i64 a0_1] (0, 0) _ rfl (br_ BK529) Tryd.underlying23 rfl (by kernel_rfl)) rfl ?_
    exact ⟨ae, bf HB⟩
  · rw [if_neg c2] at H
    have c2b0 : (a0_0 == (-9223372036854775808)) = false := beq_eq_false_iff_ne.mpr c2
    have c2b1 : (a0_0 != (-9223372036854775808)) = true := bne_iff_ne.mpr c2
    simp only [Option.some.injEq, Prod.mk.injEq] at H
    obtain ⟨rfl, rfl, rfl⟩ := H
    go_enter Tryd.func49, Tryd.ntmps49
    go_wp2_with (first | ((with_reducible refine gd 1 rfl ?_); refine bx_ 1 23 #[.int .i64 a0_0, .int .i64 a0_1] rfl rfl ?_; intro gb528 hg w8 BK528 hb; have GE528 := bz HB hg; replace HB := bs HB hb; clear hb hg) | ((with_reducible refine gd 2 rfl ?_); refine bx_ 2 23 #[.int .i64 0, .int .i64 0] rfl rfl ?_; intro gb529 hg w9 BK529 hb; have GE529 := bz HB hg; have ⟨NB528_529, NB529_528⟩ := nb BK528 hg; replace BK528 := bb BK528 hb; replace HB := bs HB hb; clear hb hg; have hnb10 := nn NB528_529; have hcz11 := k2 BK528; have hcz12 := k2 BK529))
    refine bodyPost_ret (results_ct rfl _ _ gb529 23 #[.int .i64 (wrap64 (-a0_0)), .int .i64 a0_1] (0, 0) _ rfl (br_ BK529) Tryd.underlying23 rfl (by kernel_rfl)) rfl ?_
    exact ⟨ae, bf HB⟩

/-! ### carrefourref02_twiceAdded: function 50 -/
def carrefourref02_twiceAdded.T1 : Bool × List (List Nat × List Nat) := (true, [([], []), ([0], [0]), ([1], [1]), ([], []), ([3], [3]), ([4], [4]), ([2, 5, 2], [2, 5]), ([6, 6], [6]), ([7, 7, 0, 1, 2, 3, 4, 5, 6, 7], [7])])
def carrefourref02_twiceAdded.B1 : List Nat := [0, 1, 3, 0, 8, 24, 63, 127, 255]
theorem carrefourref02_twiceAdded.tab1 : rtab .any (opsOf Tryd.f50 1) = carrefourref02_twiceAdded.T1 := by kernel_rfl
theorem carrefourref02_twiceAdded.bits1 : waitsOk carrefourref02_twiceAdded.T1.2 carrefourref02_twiceAdded.B1 = true := by kernel_rfl
theorem carrefourref02_twiceAdded.calls (k : Nat) (a0_0 : Int) (a0_1 : Int) (a1_0 : Int) (a1_1 : Int) (r1 : Int) (r2 : Int) (r3 : Int) (w : World) (h : carrefourref02_twiceAdded.f k a0_0 a0_1 a1_0 a1_1 = some (r1, r2, r3)) :
    Calls Tryd.prog 50 #[.agg #[.int .i64 a0_0, .int .i64 a0_1], .agg #[.int .i64 a1_0, .int .i64 a1_1]] w fun e w' => e = .returned (.tuple #[.agg #[.int .i64 r1, .int .i64 r2], .int .i64 r3]) ∧ Below w.heap.size w w' := by
  have hu23 := Tryd.underlying23
  have HB := Aside0.mk (Below.refl w.heap.size w)
  have H : ((carrefourref01_Size.f a0_0).bind fun t533 => ((carrefourref01_Times.f k t533 (IntKind.u64.wrap (a1_1))).bind fun t534 => ((carrefourref02_trim.f k t534).bind fun t537 => ((carrefourref01_Times.f k (IntKind.u64.wrap (a1_0)) (IntKind.u64.wrap (a0_1))).bind fun t540 => ((carrefourref02_twice.f k t540).bind fun t543 => ((carrefourref02_trim.f k t543).bind fun t546 => ((carrefourref01_Times.f k (IntKind.u64.wrap (a0_1)) (IntKind.u64.wrap (a1_1))).bind fun t549 => ((carrefourref02_trim.f k t549).bind fun t552 => (if a0_0 ≥ 0 then ((carrefourref01_Plus.f k t537 t546).bind fun t555 => ((carrefourref02_trim.f k t555).bind fun t558 => ((carrefourref02_lowest.f k t558 t552 false).bind fun bt561 => (some (bt561.1, bt561.2.1, bt561.2.2))))) else ((carrefourref01_Order.f k t537 t546).bind fun t564 => (if t564 ≥ 0 then ((carrefourref01_Minus.f k t537 t546).bind fun t565 => ((carrefourref02_trim.f k t565).bind fun t568 => ((carrefourref02_lowest.f k t568 t552 true).bind fun bt571 => (some (bt571.1, bt571.2.1, bt571.2.2))))) else ((carrefourref01_Minus.f k t546 t537).bind fun t574 => ((carrefourref02_trim.f k t574).bind fun t577 => ((carrefourref02_lowest.f k t577 t552 false).bind fun bt580 => (some (bt580.1, bt580.2.1, bt580.2.2)))))))))))))))) = some (r1, r2, r3) := h
  clear h
  replace H := bi_ H; obtain ⟨t533, A3, H⟩ := H
  (try dsimp only at H)
  replace H := bi_ H; obtain ⟨t534, A4, H⟩ := H
  (try dsimp only at H)
  replace H := bi_ H; obtain ⟨t537, A5, H⟩ := H
  (try dsimp only at H)
  replace H := bi_ H; obtain ⟨t540, A6, H⟩ := H
  (try dsimp only at H)
  replace H := bi_ H; obtain ⟨t543, A7, H⟩ := H
  (try dsimp only at H)
  replace H := bi_ H; obtain ⟨t546, A8, H⟩ := H
  (try dsimp only at H)
  replace H := bi_ H; obtain ⟨t549, A9, H⟩ := H
  (try dsimp only at H)
  replace H := bi_ H; obtain ⟨t552, A10, H⟩ := H
  (try dsimp only at H)
  by_cases c11 : a0_0 ≥ 0
  · rw [if_pos c11] at H
    have c11b0 : decide (0 ≤ a0_0) = true := decide_eq_true c11
    clear c11
    replace H := bi_ H; obtain ⟨t555, A12, H⟩ := H
    (try dsimp only at H)
    replace H := bi_ H; obtain ⟨t558, A13, H⟩ := H
    (try dsimp only at H)
    replace H := bi_ H; obtain ⟨⟨t561, t562, t563⟩, A14, H⟩ := H
    (try dsimp only at H)
    simp only [Option.some.injEq, Prod.mk.injEq] at H
    obtain ⟨rfl, rfl, rfl⟩ := H
    go_enter Tryd.func50, Tryd.ntmps50
    try go_wp2_with (first | ((with_reducible refine gd 2 rfl ?_); refine bx_ 2 23 #[.int .i64 a0_0, .int .i64 a0_1] rfl rfl ?_; intro gb530 hg w15 BK530 hb; have GE530 := bz HB hg; replace HB := bs HB hb; clear hb hg) | ((with_reducible refine gd 3 rfl ?_); refine bx_ 3 23 #[.int .i64 a1_0, .int .i64 a1_1] rfl rfl ?_; intro gb531 hg w16 BK531 hb; have GE531 := bz HB hg; have ⟨NB530_531, NB531_530⟩ := nb BK530 hg; replace BK530 := bb BK530 hb; replace HB := bs HB hb; clear hb hg) | ((with_reducible refine gd 4 rfl ?_); refine bx_ 4 23 #[.int .i64 0, .int .i64 0] rfl rfl ?_; intro gb532 hg w17 BK532 hb; have GE532 := bz HB hg; have ⟨NB530_532, NB532_530⟩ := nb BK530 hg; have ⟨NB531_532, NB532_531⟩ := nb BK531 hg; replace BK530 := bb BK530 hb; replace BK531 := bb BK531 hb; replace HB := bs HB hb; clear hb hg))
    replace BK530 := Aside0.mk (blk_drew BK530.out)
    replace BK531 := Aside0.mk (blk_drew BK531.out)
    replace BK532 := Aside0.mk (blk_drew BK532.out)
    replace HB := Aside0.mk (below_drew1 HB.out)
    refine start_ (n := 9) (S := fun w' => c_ w' gb530 0 (.int .i64 a0_0) ∧ c_ w' gb530 1 (.int .i64 a0_1) ∧ c_ w' gb531 0 (.int .i64 a1_0) ∧ c_ w' gb531 1 (.int .i64 a1_1)) (ds := []) (m_ 9 0) (by kernel_rfl) rfl rfl ⟨ct BK530 0, ct BK530 1, ct BK531 0, ct BK531 1⟩ (fun hHeld => ?_); refine with_tabW carrefourref02_twiceAdded.tab1 carrefourref02_twiceAdded.bits1 (fun HT_ HW_ => ?_)
    generalize w17.drew = w18 at BK530 BK531 BK532 HB hHeld ⊢
    refine pu_ 0 (some 9) (m_ 9 1) rfl rfl (ao HT_) ?_
    refine pu_ 3 (some 12) (m_ 9 9) rfl rfl (ao HT_) ?_
    refine tk_ 1 (some 10) (m_ 9 11) rfl rfl (tw HT_ HW_) hHeld ?_
    refine tk_ 4 (some 13) (m_ 9 27) rfl rfl (tw HT_ HW_) hHeld ?_
    refine pu_ 5 (some 14) (m_ 9 59) rfl rfl (ao HT_) ?_
    refine o1_ 2 (some 11) (m_ 9 63) rfl rfl (oo HT_) (fun K hK => ?_)
    refine gs_ rfl Tryd.func43 (carrefourref01_Size.calls _ _ _ A3.out) ag ?_
    rintro w' ⟨nd, rfl⟩
    refine hK.out _ _ ⟨ct BK530 0, ct BK530 1, ct BK531 0, ct BK531 1⟩ (fun hHeld => ?_)
    clear hK K
    refine nr_ (some 11) ?_
    refine o1_ 6 (some 15) (m_ 9 127) rfl rfl (oo HT_) (fun K hK => ?_)
    refine goes_ Tryd.func42 (by kernel_rfl) rfl #[.int .u64 t533, .int .u64 (IntKind.u64.wrap (a1_1))] (by rfl) rfl rfl ag ?_
    with_reducible refine (carrefourref01_Times.calls _ _ (IntKind.u64.wrap (a1_1)) _ _ A4.out).mono ?_
    rintro e w19 ⟨v535, rfl, ho0, hb⟩
    refine ⟨_, rfl, ?_⟩
    have HO536 := Aside0.mk (Kd.R_lower ho0 (below_size (bf HB)))
    replace BK530 := bb BK530 hb
    replace BK531 := bb BK531 hb
    replace BK532 := bb BK532 hb
    replace HB := bs HB hb
    (try clear hb); (try clear ho0)
    obtain ⟨Ao20, co20, eo20⟩ := Kd.R_slice HO536.out
    (first | subst eo20 | (injection eo20 with f1_ f2_ f3_; have f4_ := f1_.symm; have f5_ := f3_.symm; clear f1_ f2_ f3_; subst f4_; subst f5_))
    refine hK.out _ _ ⟨ct BK530 0, ct BK530 1, ct BK531 0, ct BK531 1⟩ (fun hHeld => ?_)
    clear hK K
    refine nr_ (some 15) ?_
    refine o1_ 7 (some 16) (m_ 9 255) rfl rfl (oo HT_) (fun K hK => ?_)
    refine goes_ Tryd.func41 (by kernel_rfl) rfl #[.slice Ao20 t534.length co20] (by rfl) rfl rfl ag ?_
    with_reducible refine (carrefourref02_trim.calls _ _ _ _ _ _ ?side1 ?side2 A5.out).mono ?_
    (case side1 => exact rc HO536)
    (case side2 => exact (Kd.R_reads' HO536.out).2.1)
    rintro e w21 ⟨v538, rfl, ho0, hb⟩
    refine ⟨_, rfl, ?_⟩
    have HO539 := Aside0.mk (Kd.R_lower (Kd.R_new' ho0 (rl HO536)) (below_size (bf HB)))
    replace HO536 := re_ HO536 (Kd.R_base ho0) hb
    replace BK530 := bb BK530 hb
    replace BK531 := bb BK531 hb
    replace BK532 := bb BK532 hb
    replace HB := bs HB hb
    (try clear hb); (try clear ho0)
    refine hK.out _ _ ⟨ct BK530 0, ct BK530 1, ct BK531 0, ct BK531 1⟩ (fun hHeld => ?_)
    clear hK K
    refine nr_ (some 16) ?_
    refine pu_ 8 (some 6) (m_ 9 511) rfl rfl (ao HT_) ?_
    refine done_ (done_of HT_.out (by kernel_rfl)) ?_
    have hnb22 := nn NB531_530
    have hnb23 := nn NB531_532
    have hcz24 := k2 BK531
    have hnb25 := nn NB530_532
    have hcz26 := k2 BK530
    try go_wp2_with (first | ((with_reducible refine gc 42 rfl ?_); refine gl_ (some 23) rfl rfl Tryd.func42 ((carrefourref01_Times.calls _ (IntKind.u64.wrap (a1_0)) (IntKind.u64.wrap (a0_1)) _ _ A6.out).mono ?_) ag; rintro e w27 ⟨v541, rfl, ho0, hb⟩; refine ⟨_, rfl, ?_⟩; have HO542 := Aside0.mk (Kd.R_lower (Kd.R_new' (Kd.R_new' ho0 (rl HO536)) (rl HO539)) (below_size (bf HB))); replace HO536 := re_ HO536 (Kd.R_base ho0) hb; replace HO539 := re_ HO539 (Kd.R_base ho0) hb; replace BK530 := bb BK530 hb; replace BK531 := bb BK531 hb; replace BK532 := bb BK532 hb; replace HB := bs HB hb; (try clear hb); (try clear ho0); obtain ⟨Ao28, co28, eo28⟩ := Kd.R_slice HO542.out; subst eo28) | ((with_reducible refine gc 71 rfl ?_); refine gl_ (some 24) rfl rfl Tryd.func71 ((carrefourref02_twice.calls _ _ _ _ _ _ ?side1 ?side2 A7.out).mono ?_) ag; (case side1 => exact rc HO542); (case side2 => exact (Kd.R_reads' HO542.out).2.1); rintro e w29 ⟨v544, rfl, ho0, hb⟩; refine ⟨_, rfl, ?_⟩; have HO545 := Aside0.mk (Kd.R_lower (Kd.R_new' (Kd.R_new' (Kd.R_new' ho0 (rl HO536)) (rl HO539)) (rl HO542)) (below_size (bf HB))); replace HO536 := re_ HO536 (Kd.R_base ho0) hb; replace HO539 := re_ HO539 (Kd.R_base ho0) hb; replace HO542 := re_ HO542 (Kd.R_base ho0) hb; replace BK530 := bb BK530 hb; replace BK531 := bb BK531 hb; replace BK532 := bb BK532 hb; replace HB := bs HB hb; (try clear hb); (try clear ho0); obtain ⟨Ao30, co30, eo30⟩ := Kd.R_slice HO545.out; subst eo30) | ((with_reducible refine gc 41 rfl ?_); refine gl_ (some 25) rfl rfl Tryd.func41 ((carrefourref02_trim.calls _ _ _ _ _ _ ?side1 ?side2 A8.out).mono ?_) ag; (case side1 => exact rc HO545); (case side2 => exact (Kd.R_reads' HO545.out).2.1); rintro e w31 ⟨v547, rfl, ho0, hb⟩; refine ⟨_, rfl, ?_⟩; have HO548 := Aside0.mk (Kd.R_lower (Kd.R_new' (Kd.R_new' (Kd.R_new' (Kd.R_new' ho0 (rl HO536)) (rl HO539)) (rl HO542)) (rl HO545)) (below_size (bf HB))); replace HO536 := re_ HO536 (Kd.R_base ho0) hb; replace HO539 := re_ HO539 (Kd.R_base ho0) hb; replace HO542 := re_ HO542 (Kd.R_base ho0) hb; replace HO545 := re_ HO545 (Kd.R_base ho0) hb; replace BK530 := bb BK530 hb; replace BK531 := bb BK531 hb; replace BK532 := bb BK532 hb; replace HB := bs HB hb; (try clear hb); (try clear ho0); have hcz32 := k2 BK530; have hcz33 := k2 BK531) | ((with_reducible refine gc 42 rfl ?_); refine gl_ (some 32) rfl rfl Tryd.func42 ((carrefourref01_Times.calls _ (IntKind.u64.wrap (a0_1)) (IntKind.u64.wrap (a1_1)) _ _ A9.out).mono ?_) ag; rintro e w34 ⟨v550, rfl, ho0, hb⟩; refine ⟨_, rfl, ?_⟩; have HO551 := Aside0.mk (Kd.R_lower (Kd.R_new' (Kd.R_new' (Kd.R_new' (Kd.R_new' (Kd.R_new' ho0 (rl HO536)) (rl HO539)) (rl HO542)) (rl HO545)) (rl HO548)) (below_size (bf HB))); replace HO536 := re_ HO536 (Kd.R_base ho0) hb; replace HO539 := re_ HO539 (Kd.R_base ho0) hb; replace HO542 := re_ HO542 (Kd.R_base ho0) hb; replace HO545 := re_ HO545 (Kd.R_base ho0) hb; replace HO548 := re_ HO548 (Kd.R_base ho0) hb; replace BK530 := bb BK530 hb; replace BK531 := bb BK531 hb; replace BK532 := bb BK532 hb; replace HB := bs HB hb; (try clear hb); (try clear ho0); obtain ⟨Ao35, co35, eo35⟩ := Kd.R_slice HO551.out; subst eo35) | ((with_reducible refine gc 41 rfl ?_); refine gl_ (some 33) rfl rfl Tryd.func41 ((carrefourref02_trim.calls _ _ _ _ _ _ ?side1 ?side2 A10.out).mono ?_) ag; (case side1 => exact rc HO551); (case side2 => exact (Kd.R_reads' HO551.out).2.1); rintro e w36 ⟨v553, rfl, ho0, hb⟩; refine ⟨_, rfl, ?_⟩; have HO554 := Aside0.mk (Kd.R_lower (Kd.R_new' (Kd.R_new' (Kd.R_new' (Kd.R_new' (Kd.R_new' (Kd.R_new' ho0 (rl HO536)) (rl HO539)) (rl HO542)) (rl HO545)) (rl HO548)) (rl HO551)) (below_size (bf HB))); replace HO536 := re_ HO536 (Kd.R_base ho0) hb; replace HO539 := re_ HO539 (Kd.R_base ho0) hb; replace HO542 := re_ HO542 (Kd.R_base ho0) hb; replace HO545 := re_ HO545 (Kd.R_base ho0) hb; replace HO548 := re_ HO548 (Kd.R_base ho0) hb; replace HO551 := re_ HO551 (Kd.R_base ho0) hb; replace BK530 := bb BK530 hb; replace BK531 := bb BK531 hb; replace BK532 := bb BK532 hb; replace HB := bs HB hb; (try clear hb); (try clear ho0); have hcz37 := k2 BK530; obtain ⟨Ao38, co38, eo38⟩ := Kd.R_slice HO539.out; subst eo38; obtain ⟨Ao39, co39, eo39⟩ := Kd.R_slice HO548.out; subst eo39) | ((with_reducible refine gc 45 rfl ?_); refine gl_ (some 39) rfl rfl Tryd.func45 ((carrefourref01_Plus.calls _ _ _ _ _ _ _ _ _ ?side1 ?side2 ?side3 ?side4 A12.out).mono ?_) ag; (case side1 => exact rc HO539); (case side2 => exact (Kd.R_reads' HO539.out).2.1); (case side3 => exact rc HO548); (case side4 => exact (Kd.R_reads' HO548.out).2.1); rintro e w40 ⟨v556, rfl, ho0, hb⟩; refine ⟨_, rfl, ?_⟩; have HO557 := Aside0.mk (Kd.R_lower (Kd.R_new' (Kd.R_new' (Kd.R_new' (Kd.R_new' (Kd.R_new' (Kd.R_new' (Kd.R_new' ho0 (rl HO536)) (rl HO539)) (rl HO542)) (rl HO545)) (rl HO548)) (rl HO551)) (rl HO554)) (below_size (bf HB))); replace HO536 := re_ HO536 (Kd.R_base ho0) hb; replace HO539 := re_ HO539 (Kd.R_base ho0) hb; replace HO542 := re_ HO542 (Kd.R_base ho0) hb; replace HO545 := re_ HO545 (Kd.R_base ho0) hb; replace HO548 := re_ HO548 (Kd.R_base ho0) hb; replace HO551 := re_ HO551 (Kd.R_base ho0) hb; replace HO554 := re_ HO554 (Kd.R_base ho0) hb; replace BK530 := bb BK530 hb; replace BK531 := bb BK531 hb; replace BK532 := bb BK532 hb; replace HB := bs HB hb; (try clear hb); (try clear ho0); obtain ⟨Ao41, co41, eo41⟩ := Kd.R_slice HO557.out; subst eo41) | ((with_reducible refine gc 41 rfl ?_); refine gl_ (some 40) rfl rfl Tryd.func41 ((carrefourref02_trim.calls _ _ _ _ _ _ ?side1 ?side2 A13.out).mono ?_) ag; (case side1 => exact rc HO557); (case side2 => exact (Kd.R_reads' HO557.out).2.1); rintro e w42 ⟨v559, rfl, ho0, hb⟩; refine ⟨_, rfl, ?_⟩; have HO560 := Aside0.mk (Kd.R_lower (Kd.R_new' (Kd.R_new' (Kd.R_new' (Kd.R_new' (Kd.R_new' (Kd.R_new' (Kd.R_new' (Kd.R_new' ho0 (rl HO536)) (rl HO539)) (rl HO542)) (rl HO545)) (rl HO548)) (rl HO551)) (rl HO554)) (rl HO557)) (below_size (bf HB))); replace HO536 := re_ HO536 (Kd.R_base ho0) hb; replace HO539 := re_ HO539 (Kd.R_base ho0) hb; replace HO542 := re_ HO542 (Kd.R_base ho0) hb; replace HO545 := re_ HO545 (Kd.R_base ho0) hb; replace HO548 := re_ HO548 (Kd.R_base ho0) hb; replace HO551 := re_ HO551 (Kd.R_base ho0) hb; replace HO554 := re_ HO554 (Kd.R_base ho0) hb; replace HO557 := re_ HO557 (Kd.R_base ho0) hb; replace BK530 := bb BK530 hb; replace BK531 := bb BK531 hb; replace BK532 := bb BK532 hb; replace HB := bs HB hb; (try clear hb); (try clear ho0); obtain ⟨Ao43, co43, eo43⟩ := Kd.R_slice HO560.out; subst eo43; obtain ⟨Ao44, co44, eo44⟩ := Kd.R_slice HO554.out; subst eo44) | ((with_reducible refine gc 44 rfl ?_); refine gm_ (some 42) rfl rfl Tryd.func44 (carrefourref02_lowest.calls _ (fun k_ => some k_ = (.slice Ao43 t558.length co43 : Value).ownBlock) _ _ _ (fun k_ => some k_ = (.slice Ao44 t552.length co44 : Value).ownBlock) _ _ _ _ _ _ _ _ ?side1 ?side2 A14.out) ag ?_; (case side1 => exact Kd.R_V (Kd.R_tight rfl (Kd.R_types (Kd.R_types (Kd.R_types (HO560.out) BK530.out (by decide)) BK531.out (by decide)) BK532.out (by decide)))); (case side2 => exact Kd.R_V (Kd.R_tight rfl (Kd.R_types (Kd.R_types (Kd.R_types (HO554.out) BK530.out (by decide)) BK531.out (by decide)) BK532.out (by decide)))); intro w45 hb; replace HO536 := rb HO536 hb; replace HO539 := rb HO539 hb; replace HO542 := rb HO542 hb; replace HO545 := rb HO545 hb; replace HO548 := rb HO548 hb; replace HO551 := rb HO551 hb; replace HO554 := rb HO554 hb; replace HO557 := rb HO557 hb; replace HO560 := rb HO560 hb; replace BK532 := bb BK532 hb; replace HB := bs HB hb; (try clear hb); have hcz46 := k2 BK532))
    refine bodyPost_ret (results_ct rfl _ _ gb532 23 #[.int .i64 t561, .int .i64 t562] (0, 0) _ rfl (br_ BK532) Tryd.underlying23 rfl (by kernel_rfl)) rfl ?_
    exact ⟨ae, bf HB⟩
  · rw [if_neg c11] at H
    have c11b0 : decide (0 ≤ a0_0) = false := decide_eq_false c11
    clear c11
    replace H := bi_ H; obtain ⟨t564, A47, H⟩ := H
    (try dsimp only at H)
    by_cases c48 : t564 ≥ 0
    · rw [if_pos c48] at H
      have c48b0 : decide (0 ≤ t564) = true := decide_eq_true c48
      clear c48
      replace H := bi_ H; obtain ⟨t565, A49, H⟩ := H
      (try dsimp only at H)
      replace H := bi_ H; obtain ⟨t568, A50, H⟩ := H
      (try dsimp only at H)
      replace H := bi_ H; obtain ⟨⟨t571, t572, t573⟩, A51, H⟩ := H
      (try dsimp only at H)
      simp only [Option.some.injEq, Prod.mk.injEq] at H
      obtain ⟨rfl, rfl, rfl⟩ := H
      go_enter Tryd.func50, Tryd.ntmps50
      try go_wp2_with (first | ((with_reducible refine gd 2 rfl ?_); refine bx_ 2 23 #[.int .i64 a0_0, .int .i64 a0_1] rfl rfl ?_; intro gb530 hg w52 BK530 hb; have GE530 := bz HB hg; replace HB := bs HB hb; clear hb hg) | ((with_reducible refine gd 3 rfl ?_); refine bx_ 3 23 #[.int .i64 a1_0, .int .i64 a1_1] rfl rfl ?_; intro gb531 hg w53 BK531 hb; have GE531 := bz HB hg; have ⟨NB530_531, NB531_530⟩ := nb BK530 hg; replace BK530 := bb BK530 hb; replace HB := bs HB hb; clear hb hg) | ((with_reducible refine gd 4 rfl ?_); refine bx_ 4 23 #[.int .i64 0, .int .i64 0] rfl rfl ?_; intro gb532 hg w54 BK532 hb; have GE532 := bz HB hg; have ⟨NB530_532, NB532_530⟩ := nb BK530 hg; have ⟨NB531_532, NB532_531⟩ := nb BK531 hg; replace BK530 := bb BK530 hb; replace BK531 := bb BK531 hb; replace HB := bs HB hb; clear hb hg))
      replace BK530 := Aside0.mk (blk_drew BK530.out)
      replace BK531 := Aside0.mk (blk_drew BK531.out)
      replace BK532 := Aside0.mk (blk_drew BK532.out)
      replace HB := Aside0.mk (below_drew1 HB.out)
      refine start_ (n := 9) (S := fun w' => c_ w' gb530 0 (.int .i64 a0_0) ∧ c_ w' gb530 1 (.int .i64 a0_1) ∧ c_ w' gb531 0 (.int .i64 a1_0) ∧ c_ w' gb531 1 (.int .i64 a1_1)) (ds := []) (m_ 9 0) (by kernel_rfl) rfl rfl ⟨ct BK530 0, ct BK530 1, ct BK531 0, ct BK531 1⟩ (fun hHeld => ?_); refine with_tabW carrefourref02_twiceAdded.tab1 carrefourref02_twiceAdded.bits1 (fun HT_ HW_ => ?_)
      generalize w54.drew = w55 at BK530 BK531 BK532 HB hHeld ⊢
      refine pu_ 0 (some 9) (m_ 9 1) rfl rfl (ao HT_) ?_
      refine pu_ 3 (some 12) (m_ 9 9) rfl rfl (ao HT_) ?_
      refine tk_ 1 (some 10) (m_ 9 11) rfl rfl (tw HT_ HW_) hHeld ?_
      refine tk_ 4 (some 13) (m_ 9 27) rfl rfl (tw HT_ HW_) hHeld ?_
      refine pu_ 5 (some 14) (m_ 9 59) rfl rfl (ao HT_) ?_
      refine o1_ 2 (some 11) (m_ 9 63) rfl rfl (oo HT_) (fun K hK => ?_)
      refine gs_ rfl Tryd.func43 (carrefourref01_Size.calls _ _ _ A3.out) ag ?_
      rintro w' ⟨nd, rfl⟩
      refine hK.out _ _ ⟨ct BK530 0, ct BK530 1, ct BK531 0, ct BK531 1⟩ (fun hHeld => ?_)
      clear hK K
      refine nr_ (some 11) ?_
      refine o1_ 6 (some 15) (m_ 9 127) rfl rfl (oo HT_) (fun K hK => ?_)
      refine goes_ Tryd.func42 (by kernel_rfl) rfl #[.int .u64 t533, .int .u64 (IntKind.u64.wrap (a1_1))] (by rfl) rfl rfl ag ?_
      with_reducible refine (carrefourref01_Times.calls _ _ (IntKind.u64.wrap (a1_1)) _ _ A4.out).mono ?_
      rintro e w56 ⟨v535, rfl, ho0, hb⟩
      refine ⟨_, rfl, ?_⟩
      have HO536 := Aside0.mk (Kd.R_lower ho0 (below_size (bf HB)))
      replace BK530 := bb BK530 hb
      replace BK531 := bb BK531 hb
      replace BK532 := bb BK532 hb
      replace HB := bs HB hb
      (try clear hb); (try clear ho0)
      obtain ⟨Ao57, co57, eo57⟩ := Kd.R_slice HO536.out
      (first | subst eo57 | (injection eo57 with f1_ f2_ f3_; have f4_ := f1_.symm; have f5_ := f3_.symm; clear f1_ f2_ f3_; subst f4_; subst f5_))
      refine hK.out _ _ ⟨ct BK530 0, ct BK530 1, ct BK531 0, ct BK531 1⟩ (fun hHeld => ?_)
      clear hK K
      refine nr_ (some 15) ?_
      refine o1_ 7 (some 16) (m_ 9 255) rfl rfl (oo HT_) (fun K hK => ?_)
      refine goes_ Tryd.func41 (by kernel_rfl) rfl #[.slice Ao57 t534.length co57] (by rfl) rfl rfl ag ?_
      with_reducible refine (carrefourref02_trim.calls _ _ _ _ _ _ ?side1 ?side2 A5.out).mono ?_
      (case side1 => exact rc HO536)
      (case side2 => exact (Kd.R_reads' HO536.out).2.1)
      rintro e w58 ⟨v538, rfl, ho0, hb⟩
      refine ⟨_, rfl, ?_⟩
      have HO539 := Aside0.mk (Kd.R_lower (Kd.R_new' ho0 (rl HO536)) (below_size (bf HB)))
      replace HO536 := re_ HO536 (Kd.R_base ho0) hb
      replace BK530 := bb BK530 hb
      replace BK531 := bb BK531 hb
      replace BK532 := bb BK532 hb
      replace HB := bs HB hb
      (try clear hb); (try clear ho0)
      refine hK.out _ _ ⟨ct BK530 0, ct BK530 1, ct BK531 0, ct BK531 1⟩ (fun hHeld => ?_)
      clear hK K
      refine nr_ (some 16) ?_
      refine pu_ 8 (some 6) (m_ 9 511) rfl rfl (ao HT_) ?_
      refine done_ (done_of HT_.out (by kernel_rfl)) ?_
      have hnb59 := nn NB531_530
      have hnb60 := nn NB531_532
      have hcz61 := k2 BK531
      have hnb62 := nn NB530_532
      have hcz63 := k2 BK530
      try go_wp2_with (first | ((with_reducible refine gc 42 rfl ?_); refine gl_ (some 23) rfl rfl Tryd.func42 ((carrefourref01_Times.calls _ (IntKind.u64.wrap (a1_0)) (IntKind.u64.wrap (a0_1)) _ _ A6.out).mono ?_) ag; rintro e w64 ⟨v541, rfl, ho0, hb⟩; refine ⟨_, rfl, ?_⟩; have HO542 := Aside0.mk (Kd.R_lower (Kd.R_new' (Kd.R_new' ho0 (rl HO536)) (rl HO539)) (below_size (bf HB))); replace HO536 := re_ HO536 (Kd.R_base ho0) hb; replace HO539 := re_ HO539 (Kd.R_base ho0) hb; replace BK530 := bb BK530 hb; replace BK531 := bb BK531 hb; replace BK532 := bb BK532 hb; replace HB := bs HB hb; (try clear hb); (try clear ho0); obtain ⟨Ao65, co65, eo65⟩ := Kd.R_slice HO542.out; subst eo65) | ((with_reducible refine gc 71 rfl ?_); refine gl_ (some 24) rfl rfl Tryd.func71 ((carrefourref02_twice.calls _ _ _ _ _ _ ?side1 ?side2 A7.out).mono ?_) ag; (case side1 => exact rc HO542); (case side2 => exact (Kd.R_reads' HO542.out).2.1); rintro e w66 ⟨v544, rfl, ho0, hb⟩; refine ⟨_, rfl, ?_⟩; have HO545 := Aside0.mk (Kd.R_lower (Kd.R_new' (Kd.R_new' (Kd.R_new' ho0 (rl HO536)) (rl HO539)) (rl HO542)) (below_size (bf HB))); replace HO536 := re_ HO536 (Kd.R_base ho0) hb; replace HO539 := re_ HO539 (Kd.R_base ho0) hb; replace HO542 := re_ HO542 (Kd.R_base ho0) hb; replace BK530 := bb BK530 hb; replace BK531 := bb BK531 hb; replace BK532 := bb BK532 hb; replace HB := bs HB hb; (try clear hb); (try clear ho0); obtain ⟨Ao67, co67, eo67⟩ := Kd.R_slice HO545.out; subst eo67) | ((with_reducible refine gc 41 rfl ?_); refine gl_ (some 25) rfl rfl Tryd.func41 ((carrefourref02_trim.calls _ _ _ _ _ _ ?side1 ?side2 A8.out).mono ?_) ag; (case side1 => exact rc HO545); (case side2 => exact (Kd.R_reads' HO545.out).2.1); rintro e w68 ⟨v547, rfl, ho0, hb⟩; refine ⟨_, rfl, ?_⟩; have HO548 := Aside0.mk (Kd.R_lower (Kd.R_new' (Kd.R_new' (Kd.R_new' (Kd.R_new' ho0 (rl HO536)) (rl HO539)) (rl HO542)) (rl HO545)) (below_size (bf HB))); replace HO536 := re_ HO536 (Kd.R_base ho0) hb; replace HO539 := re_ HO539 (Kd.R_base ho0) hb; replace HO542 := re_ HO542 (Kd.R_base ho0) hb; replace HO545 := re_ HO545 (Kd.R_base ho0) hb; replace BK530 := bb BK530 hb; replace BK531 := bb BK531 hb; replace BK532 := bb BK532 hb; replace HB := bs HB hb; (try clear hb); (try clear ho0); have hcz69 := k2 BK530; have hcz70 := k2 BK531) | ((with_reducible refine gc 42 rfl ?_); refine gl_ (some 32) rfl rfl Tryd.func42 ((carrefourref01_Times.calls _ (IntKind.u64.wrap (a0_1)) (IntKind.u64.wrap (a1_1)) _ _ A9.out).mono ?_) ag; rintro e w71 ⟨v550, rfl, ho0, hb⟩; refine ⟨_, rfl, ?_⟩; have HO551 := Aside0.mk (Kd.R_lower (Kd.R_new' (Kd.R_new' (Kd.R_new' (Kd.R_new' (Kd.R_new' ho0 (rl HO536)) (rl HO539)) (rl HO542)) (rl HO545)) (rl HO548)) (below_size (bf HB))); replace HO536 := re_ HO536 (Kd.R_base ho0) hb; replace HO539 := re_ HO539 (Kd.R_base ho0) hb; replace HO542 := re_ HO542 (Kd.R_base ho0) hb; replace HO545 := re_ HO545 (Kd.R_base ho0) hb; replace HO548 := re_ HO548 (Kd.R_base ho0) hb; replace BK530 := bb BK530 hb; replace BK531 := bb BK531 hb; replace BK532 := bb BK532 hb; replace HB := bs HB hb; (try clear hb); (try clear ho0); obtain ⟨Ao72, co72, eo72⟩ := Kd.R_slice HO551.out; subst eo72) | ((with_reducible refine gc 41 rfl ?_); refine gl_ (some 33) rfl rfl Tryd.func41 ((carrefourref02_trim.calls _ _ _ _ _ _ ?side1 ?side2 A10.out).mono ?_) ag; (case side1 => exact rc HO551); (case side2 => exact (Kd.R_reads' HO551.out).2.1); rintro e w73 ⟨v553, rfl, ho0, hb⟩; refine ⟨_, rfl, ?_⟩; have HO554 := Aside0.mk (Kd.R_lower (Kd.R_new' (Kd.R_new' (Kd.R_new' (Kd.R_new' (Kd.R_new' (Kd.R_new' ho0 (rl HO536)) (rl HO539)) (rl HO542)) (rl HO545)) (rl HO548)) (rl HO551)) (below_size (bf HB))); replace HO536 := re_ HO536 (Kd.R_base ho0) hb; replace HO539 := re_ HO539 (Kd.R_base ho0) hb; replace HO542 := re_ HO542 (Kd.R_base ho0) hb; replace HO545 := re_ HO545 (Kd.R_base ho0) hb; replace HO548 := re_ HO548 (Kd.R_base ho0) hb; replace HO551 := re_ HO551 (Kd.R_base ho0) hb; replace BK530 := bb BK530 hb; replace BK531 := bb BK531 hb; replace BK532 := bb BK532 hb; replace HB := bs HB hb; (try clear hb); (try clear ho0); have hcz74 := k2 BK530; obtain ⟨Ao75, co75, eo75⟩ := Kd.R_slice HO539.out; subst eo75; obtain ⟨Ao76, co76, eo76⟩ := Kd.R_slice HO548.out; subst eo76) | ((with_reducible refine gc 46 rfl ?_); refine gm_ (some 47) rfl rfl Tryd.func46 (carrefourref01_Order.calls _ _ _ _ _ _ _ _ _ ?side1 ?side2 ?side3 ?side4 A47.out) ag ?_; (case side1 => exact rc HO539); (case side2 => exact (Kd.R_reads' HO539.out).2.1); (case side3 => exact rc HO548); (case side4 => exact (Kd.R_reads' HO548.out).2.1); intro w77 hb; replace HO536 := rb HO536 hb; replace HO539 := rb HO539 hb; replace HO542 := rb HO542 hb; replace HO545 := rb HO545 hb; replace HO548 := rb HO548 hb; replace HO551 := rb HO551 hb; replace HO554 := rb HO554 hb; replace BK530 := bb BK530 hb; replace BK531 := bb BK531 hb; replace BK532 := bb BK532 hb; replace HB := bs HB hb; (try clear hb)) | ((with_reducible refine gc 47 rfl ?_); refine gl_ (some 51) rfl rfl Tryd.func47 ((carrefourref01_Minus.calls _ _ _ _ _ _ _ _ _ ?side1 ?side2 ?side3 ?side4 A49.out).mono ?_) ag; (case side1 => exact rc HO539); (case side2 => exact (Kd.R_reads' HO539.out).2.1); (case side3 => exact rc HO548); (case side4 => exact (Kd.R_reads' HO548.out).2.1); rintro e w78 ⟨v566, rfl, ho0, hb⟩; refine ⟨_, rfl, ?_⟩; have HO567 := Aside0.mk (Kd.R_lower (Kd.R_new' (Kd.R_new' (Kd.R_new' (Kd.R_new' (Kd.R_new' (Kd.R_new' (Kd.R_new' ho0 (rl HO536)) (rl HO539)) (rl HO542)) (rl HO545)) (rl HO548)) (rl HO551)) (rl HO554)) (below_size (bf HB))); replace HO536 := re_ HO536 (Kd.R_base ho0) hb; replace HO539 := re_ HO539 (Kd.R_base ho0) hb; replace HO542 := re_ HO542 (Kd.R_base ho0) hb; replace HO545 := re_ HO545 (Kd.R_base ho0) hb; replace HO548 := re_ HO548 (Kd.R_base ho0) hb; replace HO551 := re_ HO551 (Kd.R_base ho0) hb; replace HO554 := re_ HO554 (Kd.R_base ho0) hb; replace BK530 := bb BK530 hb; replace BK531 := bb BK531 hb; replace BK532 := bb BK532 hb; replace HB := bs HB hb; (try clear hb); (try clear ho0); obtain ⟨Ao79, co79, eo79⟩ := Kd.R_slice HO567.out; subst eo79) | ((with_reducible refine gc 41 rfl ?_); refine gl_ (some 52) rfl rfl Tryd.func41 ((carrefourref02_trim.calls _ _ _ _ _ _ ?side1 ?side2 A50.out).mono ?_) ag; (case side1 => exact rc HO567); (case side2 => exact (Kd.R_reads' HO567.out).2.1); rintro e w80 ⟨v569, rfl, ho0, hb⟩; refine ⟨_, rfl, ?_⟩; have HO570 := Aside0.mk (Kd.R_lower (Kd.R_new' (Kd.R_new' (Kd.R_new' (Kd.R_new' (Kd.R_new' (Kd.R_new' (Kd.R_new' (Kd.R_new' ho0 (rl HO536)) (rl HO539)) (rl HO542)) (rl HO545)) (rl HO548)) (rl HO551)) (rl HO554)) (rl HO567)) (below_size (bf HB))); replace HO536 := re_ HO536 (Kd.R_base ho0) hb; replace HO539 := re_ HO539 (Kd.R_base ho0) hb; replace HO542 := re_ HO542 (Kd.R_base ho0) hb; replace HO545 := re_ HO545 (Kd.R_base ho0) hb; replace HO548 := re_ HO548 (Kd.R_base ho0) hb; replace HO551 := re_ HO551 (Kd.R_base ho0) hb; replace HO554 := re_ HO554 (Kd.R_base ho0) hb; replace HO567 := re_ HO567 (Kd.R_base ho0) hb; replace BK530 := bb BK530 hb; replace BK531 := bb BK531 hb; replace BK532 := bb BK532 hb; replace HB := bs HB hb; (try clear hb); (try clear ho0); obtain ⟨Ao81, co81, eo81⟩ := Kd.R_slice HO570.out; subst eo81; obtain ⟨Ao82, co82, eo82⟩ := Kd.R_slice HO554.out; subst eo82) | ((with_reducible refine gc 44 rfl ?_); refine gm_ (some 54) rfl rfl Tryd.func44 (carrefourref02_lowest.calls _ (fun k_ => some k_ = (.slice Ao81 t568.length co81 : Value).ownBlock) _ _ _ (fun k_ => some k_ = (.slice Ao82 t552.length co82 : Value).ownBlock) _ _ _ _ _ _ _ _ ?side1 ?side2 A51.out) ag ?_; (case side1 => exact Kd.R_V (Kd.R_tight rfl (Kd.R_types (Kd.R_types (Kd.R_types (HO570.out) BK530.out (by decide)) BK531.out (by decide)) BK532.out (by decide)))); (case side2 => exact Kd.R_V (Kd.R_tight rfl (Kd.R_types (Kd.R_types (Kd.R_types (HO554.out) BK530.out (by decide)) BK531.out (by decide)) BK532.out (by decide)))); intro w83 hb; replace HO536 := rb HO536 hb; replace HO539 := rb HO539 hb; replace HO542 := rb HO542 hb; replace HO545 := rb HO545 hb; replace HO548 := rb HO548 hb; replace HO551 := rb HO551 hb; replace HO554 := rb HO554 hb; replace HO567 := rb HO567 hb; replace HO570 := rb HO570 hb; replace BK532 := bb BK532 hb; replace HB := bs HB hb; (try clear hb); have hcz84 := k2 BK532))
      refine bodyPost_ret (results_ct rfl _ _ gb532 23 #[.int .i64 t571, .int .i64 t572] (0, 0) _ rfl (br_ BK532) Tryd.underlying23 rfl (by kernel_rfl)) rfl ?_
      exact ⟨ae, bf HB⟩
    · rw [if_neg c48] at H
      have c48b0 : decide (0 ≤ t564) = false := decide_eq_false c48
      clear c48
      replace H := bi_ H; obtain ⟨t574, A85, H⟩ := H
      (try dsimp only at H)
      replace H := bi_ H; obtain ⟨t577, A86, H⟩ := H
      (try dsimp only at H)
      replace H := bi_ H; obtain ⟨⟨t580, t581, t582⟩, A87, H⟩ := H
      (try dsimp only at H)
      simp only [Option.some.injEq, Prod.mk.injEq] at H
      obtain ⟨rfl, rfl, rfl⟩ := H
      go_enter Tryd.func50, Tryd.ntmps50
      try go_wp2_with (first | ((with_reducible refine gd 2 rfl ?_); refine bx_ 2 23 #[.int .i64 a0_0, .int .i64 a0_1] rfl rfl ?_; intro gb530 hg w88 BK530 hb; have GE530 := bz HB hg; replace HB := bs HB hb; clear hb hg) | ((with_reducible refine gd 3 rfl ?_); refine bx_ 3 23 #[.int .i64 a1_0, .int .i64 a1_1] rfl rfl ?_; intro gb531 hg w89 BK531 hb; have GE531 := bz HB hg; have ⟨NB530_531, NB531_530⟩ := nb BK530 hg; replace BK530 := bb BK530 hb; replace HB := bs HB hb; clear hb hg) | ((with_reducible refine gd 4 rfl ?_); refine bx_ 4 23 #[.int .i64 0, .int .i64 0] rfl rfl ?_; intro gb532 hg w90 BK532 hb; have GE532 := bz HB hg; have ⟨NB530_532, NB532_530⟩ := nb BK530 hg; have ⟨NB531_532, NB532_531⟩ := nb BK531 hg; replace BK530 := bb BK530 hb; replace BK531 := bb BK531 hb; replace HB := bs HB hb; clear hb hg))
      replace BK530 := Aside0.mk (blk_drew BK530.out)
      replace BK531 := Aside0.mk (blk_drew BK531.out)
      replace BK532 := Aside0.mk (blk_drew BK532.out)
      replace HB := Aside0.mk (below_drew1 HB.out)
      refine start_ (n := 9) (S := fun w' => c_ w' gb530 0 (.int .i64 a0_0) ∧ c_ w' gb530 1 (.int .i64 a0_1) ∧ c_ w' gb531 0 (.int .i64 a1_0) ∧ c_ w' gb531 1 (.int .i64 a1_1)) (ds := []) (m_ 9 0) (by kernel_rfl) rfl rfl ⟨ct BK530 0, ct BK530 1, ct BK531 0, ct BK531 1⟩ (fun hHeld => ?_); refine with_tabW carrefourref02_twiceAdded.tab1 carrefourref02_twiceAdded.bits1 (fun HT_ HW_ => ?_)
      generalize w90.drew = w91 at BK530 BK531 BK532 HB hHeld ⊢
      refine pu_ 0 (some 9) (m_ 9 1) rfl rfl (ao HT_) ?_
      refine pu_ 3 (some 12) (m_ 9 9) rfl rfl (ao HT_) ?_
      refine tk_ 1 (some 10) (m_ 9 11) rfl rfl (tw HT_ HW_) hHeld ?_
      refine tk_ 4 (some 13) (m_ 9 27) rfl rfl (tw HT_ HW_) hHeld ?_
      refine pu_ 5 (some 14) (m_ 9 59) rfl rfl (ao HT_) ?_
      refine o1_ 2 (some 11) (m_ 9 63) rfl rfl (oo HT_) (fun K hK => ?_)
      refine gs_ rfl Tryd.func43 (carrefourref01_Size.calls _ _ _ A3.out) ag ?_
      rintro w' ⟨nd, rfl⟩
      refine hK.out _ _ ⟨ct BK530 0, ct BK530 1, ct BK531 0, ct BK531 1⟩ (fun hHeld => ?_)
      clear hK K
      refine nr_ (some 11) ?_
      refine o1_ 6 (some 15) (m_ 9 127) rfl rfl (oo HT_) (fun K hK => ?_)
      refine goes_ Tryd.func42 (by kernel_rfl) rfl #[.int .u64 t533, .int .u64 (IntKind.u64.wrap (a1_1))] (by rfl) rfl rfl ag ?_
      with_reducible refine (carrefourref01_Times.calls _ _ (IntKind.u64.wrap (a1_1)) _ _ A4.out).mono ?_
      rintro e w92 ⟨v535, rfl, ho0, hb⟩
      refine ⟨_, rfl, ?_⟩
      have HO536 := Aside0.mk (Kd.R_lower ho0 (below_size (bf HB)))
      replace BK530 := bb BK530 hb
      replace BK531 := bb BK531 hb
      replace BK532 := bb BK532 hb
      replace HB := bs HB hb
      (try clear hb); (try clear ho0)
      obtain ⟨Ao93, co93, eo93⟩ := Kd.R_slice HO536.out
      (first | subst eo93 | (injection eo93 with f1_ f2_ f3_; have f4_ := f1_.symm; have f5_ := f3_.symm; clear f1_ f2_ f3_; subst f4_; subst f5_))
      refine hK.out _ _ ⟨ct BK530 0, ct BK530 1, ct BK531 0, ct BK531 1⟩ (fun hHeld => ?_)
      clear hK K
      refine nr_ (some 15) ?_
      refine o1_ 7 (some 16) (m_ 9 255) rfl rfl (oo HT_) (fun K hK => ?_)
      refine goes_ Tryd.func41 (by kernel_rfl) rfl #[.slice Ao93 t534.length co93] (by rfl) rfl rfl ag ?_
      with_reducible refine (carrefourref02_trim.calls _ _ _ _ _ _ ?side1 ?side2 A5.out).mono ?_
      (case side1 => exact rc HO536)
      (case side2 => exact (Kd.R_reads' HO536.out).2.1)
      rintro e w94 ⟨v538, rfl, ho0, hb⟩
      refine ⟨_, rfl, ?_⟩
      have HO539 := Aside0.mk (Kd.R_lower (Kd.R_new' ho0 (rl HO536)) (below_size (bf HB)))
      replace HO536 := re_ HO536 (Kd.R_base ho0) hb
      replace BK530 := bb BK530 hb
      replace BK531 := bb BK531 hb
      replace BK532 := bb BK532 hb
      replace HB := bs HB hb
      (try clear hb); (try clear ho0)
      refine hK.out _ _ ⟨ct BK530 0, ct BK530 1, ct BK531 0, ct BK531 1⟩ (fun hHeld => ?_)
      clear hK K
      refine nr_ (some 16) ?_
      refine pu_ 8 (some 6) (m_ 9 511) rfl rfl (ao HT_) ?_
      refine done_ (done_of HT_.out (by kernel_rfl)) ?_
      have hnb95 := nn NB531_530
      have hnb96 := nn NB531_532
      have hcz97 := k2 BK531
      have hnb98 := nn NB530_532
      have hcz99 := k2 BK530
      try go_wp2_with (first | ((with_reducible refine gc 42 rfl ?_); refine gl_ (some 23) rfl rfl Tryd.func42 ((carrefourref01_Times.calls _ (IntKind.u64.wrap (a1_0)) (IntKind.u64.wrap (a0_1)) _ _ A6.out).mono ?_) ag; rintro e w100 ⟨v541, rfl, ho0, hb⟩; refine ⟨_, rfl, ?_⟩; have HO542 := Aside0.mk (Kd.R_lower (Kd.R_new' (Kd.R_new' ho0 (rl HO536)) (rl HO539)) (below_size (bf HB))); replace HO536 := re_ HO536 (Kd.R_base ho0) hb; replace HO539 := re_ HO539 (Kd.R_base ho0) hb; replace BK530 := bb BK530 hb; replace BK531 := bb BK531 hb; replace BK532 := bb BK532 hb; replace HB := bs HB hb; (try clear hb); (try clear ho0); obtain ⟨Ao101, co101, eo101⟩ := Kd.R_slice HO542.out; subst eo101) | ((with_reducible refine gc 71 rfl ?_); refine gl_ (some 24) rfl rfl Tryd.func71 ((carrefourref02_twice.calls _ _ _ _ _ _ ?side1 ?side2 A7.out).mono ?_) ag; (case side1 => exact rc HO542); (case side2 => exact (Kd.R_reads' HO542.out).2.1); rintro e w102 ⟨v544, rfl, ho0, hb⟩; refine ⟨_, rfl, ?_⟩; have HO545 := Aside0.mk (Kd.R_lower (Kd.R_new' (Kd.R_new' (Kd.R_new' ho0 (rl HO536)) (rl HO539)) (rl HO542)) (below_size (bf HB))); replace HO536 := re_ HO536 (Kd.R_base ho0) hb; replace HO539 := re_ HO539 (Kd.R_base ho0) hb; replace HO542 := re_ HO542 (Kd.R_base ho0) hb; replace BK530 := bb BK530 hb; replace BK531 := bb BK531 hb; replace BK532 := bb BK532 hb; replace HB := bs HB hb; (try clear hb); (try clear ho0); obtain ⟨Ao103, co103, eo103⟩ := Kd.R_slice HO545.out; subst eo103) | ((with_reducible refine gc 41 rfl ?_); refine gl_ (some 25) rfl rfl Tryd.func41 ((carrefourref02_trim.calls _ _ _ _ _ _ ?side1 ?side2 A8.out).mono ?_) ag; (case side1 => exact rc HO545); (case side2 => exact (Kd.R_reads' HO545.out).2.1); rintro e w104 ⟨v547, rfl, ho0, hb⟩; refine ⟨_, rfl, ?_⟩; have HO548 := Aside0.mk (Kd.R_lower (Kd.R_new' (Kd.R_new' (Kd.R_new' (Kd.R_new' ho0 (rl HO536)) (rl HO539)) (rl HO542)) (rl HO545)) (below_size (bf HB))); replace HO536 := re_ HO536 (Kd.R_base ho0) hb; replace HO539 := re_ HO539 (Kd.R_base ho0) hb; replace HO542 := re_ HO542 (Kd.R_base ho0) hb; replace HO545 := re_ HO545 (Kd.R_base ho0) hb; replace BK530 := bb BK530 hb; replace BK531 := bb BK531 hb; replace BK532 := bb BK532 hb; replace HB := bs HB hb; (try clear hb); (try clear ho0); have hcz105 := k2 BK530; have hcz106 := k2 BK531) | ((with_reducible refine gc 42 rfl ?_); refine gl_ (some 32) rfl rfl Tryd.func42 ((carrefourref01_Times.calls _ (IntKind.u64.wrap (a0_1)) (IntKind.u64.wrap (a1_1)) _ _ A9.out).mono ?_) ag; rintro e w107 ⟨v550, rfl, ho0, hb⟩; refine ⟨_, rfl, ?_⟩; have HO551 := Aside0.mk (Kd.R_lower (Kd.R_new' (Kd.R_new' (Kd.R_new' (Kd.R_new' (Kd.R_new' ho0 (rl HO536)) (rl HO539)) (rl HO542)) (rl HO545)) (rl HO548)) (below_size (bf HB))); replace HO536 := re_ HO536 (Kd.R_base ho0) hb; replace HO539 := re_ HO539 (Kd.R_base ho0) hb; replace HO542 := re_ HO542 (Kd.R_base ho0) hb; replace HO545 := re_ HO545 (Kd.R_base ho0) hb; replace HO548 := re_ HO548 (Kd.R_base ho0) hb; replace BK530 := bb BK530 hb; replace BK531 := bb BK531 hb; replace BK532 := bb BK532 hb; replace HB := bs HB hb; (try clear hb); (try clear ho0); obtain ⟨Ao108, co108, eo108⟩ := Kd.R_slice HO551.out; subst eo108) | ((with_reducible refine gc 41 rfl ?_); refine gl_ (some 33) rfl rfl Tryd.func41 ((carrefourref02_trim.calls _ _ _ _ _ _ ?side1 ?side2 A10.out).mono ?_) ag; (case side1 => exact rc HO551); (case side2 => exact (Kd.R_reads' HO551.out).2.1); rintro e w109 ⟨v553, rfl, ho0, hb⟩; refine ⟨_, rfl, ?_⟩; have HO554 := Aside0.mk (Kd.R_lower (Kd.R_new' (Kd.R_new' (Kd.R_new' (Kd.R_new' (Kd.R_new' (Kd.R_new' ho0 (rl HO536)) (rl HO539)) (rl HO542)) (rl HO545)) (rl HO548)) (rl HO551)) (below_size (bf HB))); replace HO536 := re_ HO536 (Kd.R_base ho0) hb; replace HO539 := re_ HO539 (Kd.R_base ho0) hb; replace HO542 := re_ HO542 (Kd.R_base ho0) hb; replace HO545 := re_ HO545 (Kd.R_base ho0) hb; replace HO548 := re_ HO548 (Kd.R_base ho0) hb; replace HO551 := re_ HO551 (Kd.R_base ho0) hb; replace BK530 := bb BK530 hb; replace BK531 := bb BK531 hb; replace BK532 := bb BK532 hb; replace HB := bs HB hb; (try clear hb); (try clear ho0); have hcz110 := k2 BK530; obtain ⟨Ao111, co111, eo111⟩ := Kd.R_slice HO539.out; subst eo111; obtain ⟨Ao112, co112, eo112⟩ := Kd.R_slice HO548.out; subst eo112) | ((with_reducible refine gc 46 rfl ?_); refine gm_ (some 47) rfl rfl Tryd.func46 (carrefourref01_Order.calls _ _ _ _ _ _ _ _ _ ?side1 ?side2 ?side3 ?side4 A47.out) ag ?_; (case side1 => exact rc HO539); (case side2 => exact (Kd.R_reads' HO539.out).2.1); (case side3 => exact rc HO548); (case side4 => exact (Kd.R_reads' HO548.out).2.1); intro w113 hb; replace HO536 := rb HO536 hb; replace HO539 := rb HO539 hb; replace HO542 := rb HO542 hb; replace HO545 := rb HO545 hb; replace HO548 := rb HO548 hb; replace HO551 := rb HO551 hb; replace HO554 := rb HO554 hb; replace BK530 := bb BK530 hb; replace BK531 := bb BK531 hb; replace BK532 := bb BK532 hb; replace HB := bs HB hb; (try clear hb)) | ((with_reducible refine gc 47 rfl ?_); refine gl_ (some 59) rfl rfl Tryd.func47 ((carrefourref01_Minus.calls _ _ _ _ _ _ _ _ _ ?side1 ?side2 ?side3 ?side4 A85.out).mono ?_) ag; (case side1 => exact rc HO548); (case side2 => exact (Kd.R_reads' HO548.out).2.1); (case side3 => exact rc HO539); (case side4 => exact (Kd.R_reads' HO539.out).2.1); rintro e w114 ⟨v575, rfl, ho0, hb⟩; refine ⟨_, rfl, ?_⟩; have HO576 := Aside0.mk (Kd.R_lower (Kd.R_new' (Kd.R_new' (Kd.R_new' (Kd.R_new' (Kd.R_new' (Kd.R_new' (Kd.R_new' ho0 (rl HO536)) (rl HO539)) (rl HO542)) (rl HO545)) (rl HO548)) (rl HO551)) (rl HO554)) (below_size (bf HB))); replace HO536 := re_ HO536 (Kd.R_base ho0) hb; replace HO539 := re_ HO539 (Kd.R_base ho0) hb; replace HO542 := re_ HO542 (Kd.R_base ho0) hb; replace HO545 := re_ HO545 (Kd.R_base ho0) hb; replace HO548 := re_ HO548 (Kd.R_base ho0) hb; replace HO551 := re_ HO551 (Kd.R_base ho0) hb; replace HO554 := re_ HO554 (Kd.R_base ho0) hb; replace BK530 := bb BK530 hb; replace BK531 := bb BK531 hb; replace BK532 := bb BK532 hb; replace HB := bs HB hb; (try clear hb); (try clear ho0); obtain ⟨Ao115, co115, eo115⟩ := Kd.R_slice HO576.out; subst eo115) | ((with_reducible refine gc 41 rfl ?_); refine gl_ (some 60) rfl rfl Tryd.func41 ((carrefourref02_trim.calls _ _ _ _ _ _ ?side1 ?side2 A86.out).mono ?_) ag; (case side1 => exact rc HO576); (case side2 => exact (Kd.R_reads' HO576.out).2.1); rintro e w116 ⟨v578, rfl, ho0, hb⟩; refine ⟨_, rfl, ?_⟩; have HO579 := Aside0.mk (Kd.R_lower (Kd.R_new' (Kd.R_new' (Kd.R_new' (Kd.R_new' (Kd.R_new' (Kd.R_new' (Kd.R_new' (Kd.R_new' ho0 (rl HO536)) (rl HO539)) (rl HO542)) (rl HO545)) (rl HO548)) (rl HO551)) (rl HO554)) (rl HO576)) (below_size (bf HB))); replace HO536 := re_ HO536 (Kd.R_base ho0) hb; replace HO539 := re_ HO539 (Kd.R_base ho0) hb; replace HO542 := re_ HO542 (Kd.R_base ho0) hb; replace HO545 := re_ HO545 (Kd.R_base ho0) hb; replace HO548 := re_ HO548 (Kd.R_base ho0) hb; replace HO551 := re_ HO551 (Kd.R_base ho0) hb; replace HO554 := re_ HO554 (Kd.R_base ho0) hb; replace HO576 := re_ HO576 (Kd.R_base ho0) hb; replace BK530 := bb BK530 hb; replace BK531 := bb BK531 hb; replace BK532 := bb BK532 hb; replace HB := bs HB hb; (try clear hb); (try clear ho0); obtain ⟨Ao117, co117, eo117⟩ := Kd.R_slice HO579.out; subst eo117; obtain ⟨Ao118, co118, eo118⟩ := Kd.R_slice HO554.out; subst eo118) | ((with_reducible refine gc 44 rfl ?_); refine gm_ (some 62) rfl rfl Tryd.func44 (carrefourref02_lowest.calls _ (fun k_ => some k_ = (.slice Ao117 t577.length co117 : Value).ownBlock) _ _ _ (fun k_ => some k_ = (.slice Ao118 t552.length co118 : Value).ownBlock) _ _ _ _ _ _ _ _ ?side1 ?side2 A87.out) ag ?_; (case side1 => exact Kd.R_V (Kd.R_tight rfl (Kd.R_types (Kd.R_types (Kd.R_types (HO579.out) BK530.out (by decide)) BK531.out (by decide)) BK532.out (by decide)))); (case side2 => exact Kd.R_V (Kd.R_tight rfl (Kd.R_types (Kd.R_types (Kd.R_types (HO554.out) BK530.out (by decide)) BK531.out (by decide)) BK532.out (by decide)))); intro w119 hb; replace HO536 := rb HO536 hb; replace HO539 := rb HO539 hb; replace HO542 := rb HO542 hb; replace HO545 := rb HO545 hb; replace HO548 := rb HO548 hb; replace HO551 := rb HO551 hb; replace HO554 := rb HO554 hb; replace HO576 := rb HO576 hb; replace HO579 := rb HO579 hb; replace BK532 := bb BK532 hb; replace HB := bs HB hb; (try clear hb); have hcz120 := k2 BK532))
      refine bodyPost_ret (results_ct rfl _ _ gb532 23 #[.int .i64 t580, .int .i64 t581] (0, 0) _ rfl (br_ BK532) Tryd.underlying23 rfl (by kernel_rfl)) rfl ?_
      exact ⟨ae, bf HB⟩

end Go.Proofs.YtjgnaccamakpdaaDoor.X
