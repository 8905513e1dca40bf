/- Walks: each '.calls' says that the Go function comes to what its Lean function tells. Conditions: as each theorem's head says. -/
import Derived.Test.YtcdaedhphdmnoaaGreatDoorXD
import Derived.Test.YtcdaedhphdmnoaaGreatDoorX0
import Derived.Test.YtcdaedhphdmnoaaGreatDoorX10
import Derived.Test.YtcdaedhphdmnoaaGreatDoorX11
import Derived.Test.YtcdaedhphdmnoaaGreatDoorX12
import Derived.Test.YtcdaedhphdmnoaaGreatDoorX13
namespace Go.Proofs.YtcdaedhphdmnoaaGreatDoor.X
open Go.RowKit Go.Proofs.YtcdaedhphdmnoaaGreatDoorW.PrintWords Go.Proofs.YtcdaedhphdmnoaaGreatDoorW.PrintLast Go.Proofs.YtcdaedhphdmnoaaGreatDoorW.PrintMore
attribute [local go_sem] max2_int min2_int max_two min_two max_three min_three max_four min_four   -- for this text's walks alone
set_option linter.unusedVariables false
set_option maxHeartbeats 8000000
set_option maxRecDepth 100000
set_option linter.unusedSimpArgs false

/-! ### carrefourref02_Mul: function 11 -/
def carrefourref02_Mul.T5 : Bool × List (List Nat × List Nat) := (true, [([], []), ([0], [0]), ([1], [1]), ([], []), ([3], [3]), ([4, 2], [4]), ([2, 5, 5], [2, 5]), ([6, 6], [6]), ([7, 7, 0, 1, 2, 3, 4, 5, 6, 7], [7])])
def carrefourref02_Mul.B5 : List Nat := [0, 1, 3, 0, 8, 31, 63, 127, 255]
theorem carrefourref02_Mul.tab5 : rtab .any (opsOf Tryz.f11 5) = carrefourref02_Mul.T5 := by kernel_rfl
theorem carrefourref02_Mul.bits5 : waitsOk carrefourref02_Mul.T5.2 carrefourref02_Mul.B5 = true := by kernel_rfl
theorem carrefourref02_Mul.calls (k : Nat) (a0_0 : Int) (a0_1 : Int) (a1_0 : Int) (a1_1 : Int) (r1 : Int) (r2 : Int) (r3 : Int) (w : World) (h : carrefourref02_Mul.f k a0_0 a0_1 a1_0 a1_1 = some (r1, r2, r3)) :
    Calls Tryz.prog 11 #[.agg #[.int .i64 a0_0, .int .i64 a0_1], .agg #[.int .i64 a1_0, .int .i64 a1_1]] w fun e w' => e = .returned (.tuple #[.agg #[.int .i64 r1, .int .i64 r2], .int .i64 r3]) ∧ Below w.heap.size w w' := by
  have hu23 := Tryz.underlying23
  have HB := Aside0.mk (Below.refl w.heap.size w)
  have H : ((carrefourref02_Norm.f k a0_0 a0_1).bind fun bt436 => ((carrefourref02_Norm.f k a1_0 a1_1).bind fun bt438 => ((carrefourref02_few.f bt436.1 bt436.2 bt438.1 bt438.2).bind fun t440 => (if t440 = true then ((carrefourref02_Of.f k (wrap64 (bt436.1 * bt438.1)) (wrap64 (bt436.2 * bt438.2))).bind fun bt441 => (some (bt441.1, bt441.2.1, bt441.2.2))) else ((carrefourref01_Size.f bt436.1).bind fun t444 => ((carrefourref01_Size.f bt438.1).bind fun t445 => ((carrefourref01_Times.f k t444 t445).bind fun t446 => ((carrefourref02_trim.f k t446).bind fun t449 => ((carrefourref01_Times.f k (IntKind.u64.wrap (bt436.2)) (IntKind.u64.wrap (bt438.2))).bind fun t452 => ((carrefourref02_trim.f k t452).bind fun t455 => ((carrefourref02_lowest.f k t449 t455 ((decide (bt436.1 < 0)) != (decide (bt438.1 < 0)))).bind fun bt458 => (some (bt458.1, bt458.2.1, bt458.2.2))))))))))))) = some (r1, r2, r3) := h
  clear h
  replace H := bi_ H; obtain ⟨⟨t436, t437⟩, A3, H⟩ := H
  (try dsimp only at H)
  replace H := bi_ H; obtain ⟨⟨t438, t439⟩, A4, H⟩ := H
  (try dsimp only at H)
  replace H := bi_ H; obtain ⟨t440, A5, H⟩ := H
  (try dsimp only at H)
  by_cases c6 : t440 = true
  · subst c6
    have H1 : ((carrefourref02_Of.f k (wrap64 (t436 * t438)) (wrap64 (t437 * t439))).bind fun bt441 => (some (bt441.1, bt441.2.1, bt441.2.2))) = some (r1, r2, r3) := by rw [if_pos rfl] at H; exact H
    clear H
    have H := H1
    clear H1
    replace H := bi_ H; obtain ⟨⟨t441, t442, t443⟩, A7, H⟩ := H
    (try dsimp only at H)
    simp only [Option.some.injEq, Prod.mk.injEq] at H
    obtain ⟨rfl, rfl, rfl⟩ := H
    go_enter Tryz.func11, Tryz.ntmps11
    go_wp2_with (first | ((with_reducible refine gd 2 rfl ?_); refine bx_ 2 23 #[.int .i64 a0_0, .int .i64 a0_1] rfl rfl ?_; intro gb433 hg w8 BK433 hb; have GE433 := bz HB hg; replace HB := bs HB hb; clear hb hg) | ((with_reducible refine gd 3 rfl ?_); refine bx_ 3 23 #[.int .i64 a1_0, .int .i64 a1_1] rfl rfl ?_; intro gb434 hg w9 BK434 hb; have GE434 := bz HB hg; have ⟨NB433_434, NB434_433⟩ := nb BK433 hg; replace BK433 := bb BK433 hb; replace HB := bs HB hb; clear hb hg) | ((with_reducible refine gd 4 rfl ?_); refine bx_ 4 23 #[.int .i64 0, .int .i64 0] rfl rfl ?_; intro gb435 hg w10 BK435 hb; have GE435 := bz HB hg; have ⟨NB433_435, NB435_433⟩ := nb BK433 hg; have ⟨NB434_435, NB435_434⟩ := nb BK434 hg; replace BK433 := bb BK433 hb; replace BK434 := bb BK434 hb; replace HB := bs HB hb; clear hb hg; have hnb11 := nn NB433_434; have hnb12 := nn NB433_435; have hcz13 := k2 BK433) | ((with_reducible refine gc 26 rfl ?_); refine gm_ (some 9) rfl rfl Tryz.func26 (carrefourref02_Norm.calls _ _ _ _ _ _ A3.out) ag ?_; intro w14 hb; replace BK433 := bb BK433 hb; replace BK434 := bb BK434 hb; replace BK435 := bb BK435 hb; replace HB := bs HB hb; (try clear hb); have hcz15 := k2 BK433; have hnb16 := nn NB434_435; have hcz17 := k2 BK434) | ((with_reducible refine gc 26 rfl ?_); refine gm_ (some 11) rfl rfl Tryz.func26 (carrefourref02_Norm.calls _ _ _ _ _ _ A4.out) ag ?_; intro w18 hb; replace BK433 := bp_ #[.int .i64 t436, .int .i64 t437] BK433 hb; replace BK434 := bb BK434 hb; replace BK435 := bb BK435 hb; replace HB := bs HB hb; (try clear hb); have hcz19 := k2 BK434; have hcz20 := k2 BK433) | ((with_reducible refine gc 27 rfl ?_); refine gm_ (some 14) rfl rfl Tryz.func27 (carrefourref02_few.calls _ _ _ _ _ _ A5.out) ag ?_; intro w21 hb; replace BK433 := bb BK433 hb; replace BK434 := bp_ #[.int .i64 t438, .int .i64 t439] BK434 hb; replace BK435 := bb BK435 hb; replace HB := bs HB hb; (try clear hb); have hcz22 := k2 BK433; have hcz23 := k2 BK434) | ((with_reducible refine gc 10 rfl ?_); refine gm_ (some 25) rfl rfl Tryz.func10 (carrefourref02_Of.calls _ (wrap64 (t436 * t438)) (wrap64 (t437 * t439)) _ _ _ _ A7.out) ag ?_; intro w24 hb; replace BK435 := bb BK435 hb; replace HB := bs HB hb; (try clear hb); have hcz25 := k2 BK435))
    refine bodyPost_ret (results_ct rfl _ _ gb435 23 #[.int .i64 t441, .int .i64 t442] (0, 0) _ rfl (br_ BK435) Tryz.underlying23 rfl (by kernel_rfl)) rfl ?_
    exact ⟨ae, bf HB⟩
  · replace c6 := Bool.eq_false_iff.mpr c6
    subst c6
    have H1 : ((carrefourref01_Size.f t436).bind fun t444 => ((carrefourref01_Size.f t438).bind fun t445 => ((carrefourref01_Times.f k t444 t445).bind fun t446 => ((carrefourref02_trim.f k t446).bind fun t449 => ((carrefourref01_Times.f k (IntKind.u64.wrap (t437)) (IntKind.u64.wrap (t439))).bind fun t452 => ((carrefourref02_trim.f k t452).bind fun t455 => ((carrefourref02_lowest.f k t449 t455 ((decide (t436 < 0)) != (decide (t438 < 0)))).bind fun bt458 => (some (bt458.1, bt458.2.1, bt458.2.2))))))))) = some (r1, r2, r3) := by rw [if_neg (show ¬ (false = true) by decide)] at H; exact H
    clear H
    have H := H1
    clear H1
    replace H := bi_ H; obtain ⟨t444, A26, H⟩ := H
    (try dsimp only at H)
    replace H := bi_ H; obtain ⟨t445, A27, H⟩ := H
    (try dsimp only at H)
    replace H := bi_ H; obtain ⟨t446, A28, H⟩ := H
    (try dsimp only at H)
    replace H := bi_ H; obtain ⟨t449, A29, H⟩ := H
    (try dsimp only at H)
    replace H := bi_ H; obtain ⟨t452, A30, H⟩ := H
    (try dsimp only at H)
    replace H := bi_ H; obtain ⟨t455, A31, H⟩ := H
    (try dsimp only at H)
    replace H := bi_ H; obtain ⟨⟨t458, t459, t460⟩, A32, H⟩ := H
    (try dsimp only at H)
    simp only [Option.some.injEq, Prod.mk.injEq] at H
    obtain ⟨rfl, rfl, rfl⟩ := H
    go_enter Tryz.func11, Tryz.ntmps11
    try go_wp2_with (first | ((with_reducible refine gd 2 rfl ?_); refine bx_ 2 23 #[.int .i64 a0_0, .int .i64 a0_1] rfl rfl ?_; intro gb433 hg w33 BK433 hb; have GE433 := bz HB hg; replace HB := bs HB hb; clear hb hg) | ((with_reducible refine gd 3 rfl ?_); refine bx_ 3 23 #[.int .i64 a1_0, .int .i64 a1_1] rfl rfl ?_; intro gb434 hg w34 BK434 hb; have GE434 := bz HB hg; have ⟨NB433_434, NB434_433⟩ := nb BK433 hg; replace BK433 := bb BK433 hb; replace HB := bs HB hb; clear hb hg) | ((with_reducible refine gd 4 rfl ?_); refine bx_ 4 23 #[.int .i64 0, .int .i64 0] rfl rfl ?_; intro gb435 hg w35 BK435 hb; have GE435 := bz HB hg; have ⟨NB433_435, NB435_433⟩ := nb BK433 hg; have ⟨NB434_435, NB435_434⟩ := nb BK434 hg; replace BK433 := bb BK433 hb; replace BK434 := bb BK434 hb; replace HB := bs HB hb; clear hb hg; have hnb36 := nn NB433_434; have hnb37 := nn NB433_435; have hcz38 := k2 BK433) | ((with_reducible refine gc 26 rfl ?_); refine gm_ (some 9) rfl rfl Tryz.func26 (carrefourref02_Norm.calls _ _ _ _ _ _ A3.out) ag ?_; intro w39 hb; replace BK433 := bb BK433 hb; replace BK434 := bb BK434 hb; replace BK435 := bb BK435 hb; replace HB := bs HB hb; (try clear hb); have hcz40 := k2 BK433; have hnb41 := nn NB434_435; have hcz42 := k2 BK434) | ((with_reducible refine gc 26 rfl ?_); refine gm_ (some 11) rfl rfl Tryz.func26 (carrefourref02_Norm.calls _ _ _ _ _ _ A4.out) ag ?_; intro w43 hb; replace BK433 := bp_ #[.int .i64 t436, .int .i64 t437] BK433 hb; replace BK434 := bb BK434 hb; replace BK435 := bb BK435 hb; replace HB := bs HB hb; (try clear hb); have hcz44 := k2 BK434; have hcz45 := k2 BK433) | ((with_reducible refine gc 27 rfl ?_); refine gm_ (some 14) rfl rfl Tryz.func27 (carrefourref02_few.calls _ _ _ _ _ _ A5.out) ag ?_; intro w46 hb; replace BK433 := bb BK433 hb; replace BK434 := bp_ #[.int .i64 t438, .int .i64 t439] BK434 hb; replace BK435 := bb BK435 hb; replace HB := bs HB hb; (try clear hb)))
    replace BK433 := Aside0.mk (blk_drew BK433.out)
    replace BK434 := Aside0.mk (blk_drew BK434.out)
    replace BK435 := Aside0.mk (blk_drew BK435.out)
    replace HB := Aside0.mk (below_drew1 HB.out)
    refine start_ (n := 9) (S := fun w' => c_ w' gb433 0 (.int .i64 t436) ∧ c_ w' gb433 1 (.int .i64 t437) ∧ c_ w' gb434 0 (.int .i64 t438) ∧ c_ w' gb434 1 (.int .i64 t439)) (ds := []) (m_ 9 0) (by kernel_rfl) rfl rfl ⟨ct BK433 0, ct BK433 1, ct BK434 0, ct BK434 1⟩ (fun hHeld => ?_); refine with_tabW carrefourref02_Mul.tab5 carrefourref02_Mul.bits5 (fun HT_ HW_ => ?_)
    generalize w46.drew = w47 at BK433 BK434 BK435 HB hHeld ⊢
    refine pu_ 0 (some 28) (m_ 9 1) rfl rfl (ao HT_) ?_
    refine pu_ 3 (some 31) (m_ 9 9) rfl rfl (ao HT_) ?_
    refine tk_ 1 (some 29) (m_ 9 11) rfl rfl (tw HT_ HW_) hHeld ?_
    refine tk_ 4 (some 32) (m_ 9 27) rfl rfl (tw HT_ HW_) hHeld ?_
    refine o1_ 2 (some 30) (m_ 9 31) rfl rfl (oo HT_) (fun K hK => ?_)
    refine gs_ rfl Tryz.func23 (carrefourref01_Size.calls _ _ _ A26.out) ag ?_
    rintro w' ⟨nd, rfl⟩
    refine hK.out _ _ ⟨ct BK433 0, ct BK433 1, ct BK434 0, ct BK434 1⟩ (fun hHeld => ?_)
    clear hK K
    refine nr_ (some 30) ?_
    refine o1_ 5 (some 33) (m_ 9 63) rfl rfl (oo HT_) (fun K hK => ?_)
    refine gs_ rfl Tryz.func23 (carrefourref01_Size.calls _ _ _ A27.out) ag ?_
    rintro w' ⟨nd, rfl⟩
    refine hK.out _ _ ⟨ct BK433 0, ct BK433 1, ct BK434 0, ct BK434 1⟩ (fun hHeld => ?_)
    clear hK K
    refine nr_ (some 33) ?_
    refine o1_ 6 (some 34) (m_ 9 127) rfl rfl (oo HT_) (fun K hK => ?_)
    refine goes_ Tryz.func29 (by kernel_rfl) rfl #[.int .u64 t444, .int .u64 t445] (by rfl) rfl rfl ag ?_
    with_reducible refine (carrefourref01_Times.calls _ _ _ _ _ A28.out).mono ?_
    rintro e w48 ⟨v447, rfl, ho0, hb⟩
    refine ⟨_, rfl, ?_⟩
    have HO448 := Aside0.mk (Kd.R_lower ho0 (below_size (bf HB)))
    replace BK433 := bb BK433 hb
    replace BK434 := bb BK434 hb
    replace BK435 := bb BK435 hb
    replace HB := bs HB hb
    (try clear hb); (try clear ho0)
    obtain ⟨Ao49, co49, eo49⟩ := Kd.R_slice HO448.out
    (first | subst eo49 | (injection eo49 with f1_ f2_ f3_; have f4_ := f1_.symm; have f5_ := f3_.symm; clear f1_ f2_ f3_; subst f4_; subst f5_))
    refine hK.out _ _ ⟨ct BK433 0, ct BK433 1, ct BK434 0, ct BK434 1⟩ (fun hHeld => ?_)
    clear hK K
    refine nr_ (some 34) ?_
    refine o1_ 7 (some 35) (m_ 9 255) rfl rfl (oo HT_) (fun K hK => ?_)
    refine goes_ Tryz.func28 (by kernel_rfl) rfl #[.slice Ao49 t446.length co49] (by rfl) rfl rfl ag ?_
    with_reducible refine (carrefourref02_trim.calls _ _ _ _ _ _ ?side1 ?side2 A29.out).mono ?_
    (case side1 => exact rc HO448)
    (case side2 => exact (Kd.R_reads' HO448.out).2.1)
    rintro e w50 ⟨v450, rfl, ho0, hb⟩
    refine ⟨_, rfl, ?_⟩
    have HO451 := Aside0.mk (Kd.R_lower (Kd.R_new' ho0 (rl HO448)) (below_size (bf HB)))
    replace HO448 := re_ HO448 (Kd.R_base ho0) hb
    replace BK433 := bb BK433 hb
    replace BK434 := bb BK434 hb
    replace BK435 := bb BK435 hb
    replace HB := bs HB hb
    (try clear hb); (try clear ho0)
    refine hK.out _ _ ⟨ct BK433 0, ct BK433 1, ct BK434 0, ct BK434 1⟩ (fun hHeld => ?_)
    clear hK K
    refine nr_ (some 35) ?_
    refine pu_ 8 (some 6) (m_ 9 511) rfl rfl (ao HT_) ?_
    refine done_ (done_of HT_.out (by kernel_rfl)) ?_
    have hcz51 := k2 BK433
    have hcz52 := k2 BK434
    try go_wp2_with (first | ((with_reducible refine gc 29 rfl ?_); refine gl_ (some 42) rfl rfl Tryz.func29 ((carrefourref01_Times.calls _ (IntKind.u64.wrap (t437)) (IntKind.u64.wrap (t439)) _ _ A30.out).mono ?_) ag; rintro e w53 ⟨v453, rfl, ho0, hb⟩; refine ⟨_, rfl, ?_⟩; have HO454 := Aside0.mk (Kd.R_lower (Kd.R_new' (Kd.R_new' ho0 (rl HO448)) (rl HO451)) (below_size (bf HB))); replace HO448 := re_ HO448 (Kd.R_base ho0) hb; replace HO451 := re_ HO451 (Kd.R_base ho0) hb; replace BK433 := bb BK433 hb; replace BK434 := bb BK434 hb; replace BK435 := bb BK435 hb; replace HB := bs HB hb; (try clear hb); (try clear ho0); obtain ⟨Ao54, co54, eo54⟩ := Kd.R_slice HO454.out; subst eo54) | ((with_reducible refine gc 28 rfl ?_); refine gl_ (some 43) rfl rfl Tryz.func28 ((carrefourref02_trim.calls _ _ _ _ _ _ ?side1 ?side2 A31.out).mono ?_) ag; (case side1 => exact rc HO454); (case side2 => exact (Kd.R_reads' HO454.out).2.1); rintro e w55 ⟨v456, rfl, ho0, hb⟩; refine ⟨_, rfl, ?_⟩; have HO457 := Aside0.mk (Kd.R_lower (Kd.R_new' (Kd.R_new' (Kd.R_new' ho0 (rl HO448)) (rl HO451)) (rl HO454)) (below_size (bf HB))); replace HO448 := re_ HO448 (Kd.R_base ho0) hb; replace HO451 := re_ HO451 (Kd.R_base ho0) hb; replace HO454 := re_ HO454 (Kd.R_base ho0) hb; replace BK433 := bb BK433 hb; replace BK434 := bb BK434 hb; replace BK435 := bb BK435 hb; replace HB := bs HB hb; (try clear hb); (try clear ho0); have hcz56 := k2 BK433; have hcz57 := k2 BK434; obtain ⟨Ao58, co58, eo58⟩ := Kd.R_slice HO451.out; subst eo58; obtain ⟨Ao59, co59, eo59⟩ := Kd.R_slice HO457.out; subst eo59) | ((with_reducible refine gc 30 rfl ?_); refine gm_ (some 53) rfl rfl Tryz.func30 (carrefourref02_lowest.calls _ (fun k_ => some k_ = (.slice Ao58 t449.length co58 : Value).ownBlock) _ _ _ (fun k_ => some k_ = (.slice Ao59 t455.length co59 : Value).ownBlock) _ _ _ ((decide (t436 < 0)) != (decide (t438 < 0))) _ _ _ _ ?side1 ?side2 A32.out) ag ?_; (case side1 => exact Kd.R_V (Kd.R_tight rfl (Kd.R_types (Kd.R_types (Kd.R_types (HO451.out) BK433.out (by decide)) BK434.out (by decide)) BK435.out (by decide)))); (case side2 => exact Kd.R_V (Kd.R_tight rfl (Kd.R_types (Kd.R_types (Kd.R_types (HO457.out) BK433.out (by decide)) BK434.out (by decide)) BK435.out (by decide)))); intro w60 hb; replace HO448 := rb HO448 hb; replace HO451 := rb HO451 hb; replace HO454 := rb HO454 hb; replace HO457 := rb HO457 hb; replace BK435 := bb BK435 hb; replace HB := bs HB hb; (try clear hb); have hcz61 := k2 BK435))
    refine bodyPost_ret (results_ct rfl _ _ gb435 23 #[.int .i64 t458, .int .i64 t459] (0, 0) _ rfl (br_ BK435) Tryz.underlying23 rfl (by kernel_rfl)) rfl ?_
    exact ⟨ae, bf HB⟩

/-! ### carrefourref02_Div: function 12 -/
def carrefourref02_Div.T7 : Bool × List (List Nat × List Nat) := (true, [([], []), ([0], [0]), ([1], [1]), ([], []), ([3], [3]), ([4], [4]), ([2, 5, 2], [2, 5]), ([6, 6], [6]), ([7, 7, 0, 1, 2, 3, 4, 5, 6, 7], [7])])
def carrefourref02_Div.B7 : List Nat := [0, 1, 3, 0, 8, 24, 63, 127, 255]
theorem carrefourref02_Div.tab7 : rtab .any (opsOf Tryz.f12 7) = carrefourref02_Div.T7 := by kernel_rfl
theorem carrefourref02_Div.bits7 : waitsOk carrefourref02_Div.T7.2 carrefourref02_Div.B7 = true := by kernel_rfl
def carrefourref02_Div.T8 : Bool × List (List Nat × List Nat) := (true, [([], []), ([0], [0]), ([1], [1]), ([], []), ([3], [3]), ([4], [4]), ([2, 5, 5], [2, 5]), ([6, 6], [6]), ([7, 7, 0, 1, 2, 3, 4, 5, 6, 7], [7])])
def carrefourref02_Div.B8 : List Nat := [0, 1, 3, 0, 8, 24, 63, 127, 255]
theorem carrefourref02_Div.tab8 : rtab .any (opsOf Tryz.f12 8) = carrefourref02_Div.T8 := by kernel_rfl
theorem carrefourref02_Div.bits8 : waitsOk carrefourref02_Div.T8.2 carrefourref02_Div.B8 = true := by kernel_rfl
theorem carrefourref02_Div.calls (k : Nat) (a0_0 : Int) (a0_1 : Int) (a1_0 : Int) (a1_1 : Int) (r1 : Int) (r2 : Int) (r3 : Int) (w : World) (h : carrefourref02_Div.f k a0_0 a0_1 a1_0 a1_1 = some (r1, r2, r3)) :
    Calls Tryz.prog 12 #[.agg #[.int .i64 a0_0, .int .i64 a0_1], .agg #[.int .i64 a1_0, .int .i64 a1_1]] w fun e w' => e = .returned (.tuple #[.agg #[.int .i64 r1, .int .i64 r2], .int .i64 r3]) ∧ Below w.heap.size w w' := by
  have hu23 := Tryz.underlying23
  have HB := Aside0.mk (Below.refl w.heap.size w)
  have H : ((carrefourref02_Norm.f k a0_0 a0_1).bind fun bt464 => ((carrefourref02_Norm.f k a1_0 a1_1).bind fun bt466 => (if bt466.1 = 0 then (some (0, 0, 3)) else ((carrefourref02_few.f bt464.1 bt464.2 bt466.1 bt466.2).bind fun t468 => (if t468 = true then ((carrefourref02_Of.f k (wrap64 (bt464.1 * bt466.2)) (wrap64 (bt464.2 * bt466.1))).bind fun bt469 => (some (bt469.1, bt469.2.1, bt469.2.2))) else ((carrefourref01_Size.f bt464.1).bind fun t472 => ((carrefourref01_Times.f k t472 (IntKind.u64.wrap (bt466.2))).bind fun t473 => ((carrefourref02_trim.f k t473).bind fun t476 => ((carrefourref01_Size.f bt466.1).bind fun t479 => ((carrefourref01_Times.f k (IntKind.u64.wrap (bt464.2)) t479).bind fun t480 => ((carrefourref02_trim.f k t480).bind fun t483 => ((carrefourref02_lowest.f k t476 t483 ((decide (bt464.1 < 0)) != (decide (bt466.1 < 0)))).bind fun bt486 => (some (bt486.1, bt486.2.1, bt486.2.2)))))))))))))) = some (r1, r2, r3) := h
  clear h
  replace H := bi_ H; obtain ⟨⟨t464, t465⟩, A3, H⟩ := H
  (try dsimp only at H)
  replace H := bi_ H; obtain ⟨⟨t466, t467⟩, A4, H⟩ := H
  (try dsimp only at H)
  by_cases c5 : t466 = 0
  · rw [if_pos c5] at H
    have c5b0 : (t466 == 0) = true := beq_iff_eq.mpr c5
    have c5b1 : (t466 != 0) = false := bne_eq_false_iff_eq.mpr c5
    clear c5
    simp only [Option.some.injEq, Prod.mk.injEq] at H
    obtain ⟨rfl, rfl, rfl⟩ := H
    go_enter Tryz.func12, Tryz.ntmps12
    go_wp2_with (first | ((with_reducible refine gd 2 rfl ?_); refine bx_ 2 23 #[.int .i64 a0_0, .int .i64 a0_1] rfl rfl ?_; intro gb461 hg w6 BK461 hb; have GE461 := bz HB hg; replace HB := bs HB hb; clear hb hg) | ((with_reducible refine gd 3 rfl ?_); refine bx_ 3 23 #[.int .i64 a1_0, .int .i64 a1_1] rfl rfl ?_; intro gb462 hg w7 BK462 hb; have GE462 := bz HB hg; have ⟨NB461_462, NB462_461⟩ := nb BK461 hg; replace BK461 := bb BK461 hb; replace HB := bs HB hb; clear hb hg) | ((with_reducible refine gd 4 rfl ?_); refine bx_ 4 23 #[.int .i64 0, .int .i64 0] rfl rfl ?_; intro gb463 hg w8 BK463 hb; have GE463 := bz HB hg; have ⟨NB461_463, NB463_461⟩ := nb BK461 hg; have ⟨NB462_463, NB463_462⟩ := nb BK462 hg; replace BK461 := bb BK461 hb; replace BK462 := bb BK462 hb; replace HB := bs HB hb; clear hb hg; have hnb9 := nn NB461_462; have hnb10 := nn NB461_463; have hcz11 := k2 BK461) | ((with_reducible refine gc 26 rfl ?_); refine gm_ (some 9) rfl rfl Tryz.func26 (carrefourref02_Norm.calls _ _ _ _ _ _ A3.out) ag ?_; intro w12 hb; replace BK461 := bb BK461 hb; replace BK462 := bb BK462 hb; replace BK463 := bb BK463 hb; replace HB := bs HB hb; (try clear hb); have hcz13 := k2 BK461; have hnb14 := nn NB462_463; have hcz15 := k2 BK462) | ((with_reducible refine gc 26 rfl ?_); refine gm_ (some 11) rfl rfl Tryz.func26 (carrefourref02_Norm.calls _ _ _ _ _ _ A4.out) ag ?_; intro w16 hb; replace BK461 := bp_ #[.int .i64 t464, .int .i64 t465] BK461 hb; replace BK462 := bb BK462 hb; replace BK463 := bb BK463 hb; replace HB := bs HB hb; (try clear hb); have hcz17 := k2 BK462; have hcz18 := k2 BK463))
    refine bodyPost_ret (results_ct rfl _ _ gb463 23 #[.int .i64 0, .int .i64 0] (0, 0) _ rfl (br_ BK463) Tryz.underlying23 rfl (by kernel_rfl)) rfl ?_
    exact ⟨ae, bf HB⟩
  · rw [if_neg c5] at H
    have c5b0 : (t466 == 0) = false := beq_eq_false_iff_ne.mpr c5
    have c5b1 : (t466 != 0) = true := bne_iff_ne.mpr c5
    replace H := bi_ H; obtain ⟨t468, A19, H⟩ := H
    (try dsimp only at H)
    by_cases c20 : t468 = true
    · subst c20
      have H1 : ((carrefourref02_Of.f k (wrap64 (t464 * t467)) (wrap64 (t465 * t466))).bind fun bt469 => (some (bt469.1, bt469.2.1, bt469.2.2))) = some (r1, r2, r3) := by rw [if_pos rfl] at H; exact H
      clear H
      have H := H1
      clear H1
      replace H := bi_ H; obtain ⟨⟨t469, t470, t471⟩, A21, H⟩ := H
      (try dsimp only at H)
      simp only [Option.some.injEq, Prod.mk.injEq] at H
      obtain ⟨rfl, rfl, rfl⟩ := H
      go_enter Tryz.func12, Tryz.ntmps12
      go_wp2_with (first | ((with_reducible refine gd 2 rfl ?_); refine bx_ 2 23 #[.int .i64 a0_0, .int .i64 a0_1] rfl rfl ?_; intro gb461 hg w22 BK461 hb; have GE461 := bz HB hg; replace HB := bs HB hb; clear hb hg) | ((with_reducible refine gd 3 rfl ?_); refine bx_ 3 23 #[.int .i64 a1_0, .int .i64 a1_1] rfl rfl ?_; intro gb462 hg w23 BK462 hb; have GE462 := bz HB hg; have ⟨NB461_462, NB462_461⟩ := nb BK461 hg; replace BK461 := bb BK461 hb; replace HB := bs HB hb; clear hb hg) | ((with_reducible refine gd 4 rfl ?_); refine bx_ 4 23 #[.int .i64 0, .int .i64 0] rfl rfl ?_; intro gb463 hg w24 BK463 hb; have GE463 := bz HB hg; have ⟨NB461_463, NB463_461⟩ := nb BK461 hg; have ⟨NB462_463, NB463_462⟩ := nb BK462 hg; replace BK461 := bb BK461 hb; replace BK462 := bb BK462 hb; replace HB := bs HB hb; clear hb hg; have hnb25 := nn NB461_462; have hnb26 := nn NB461_463; have hcz27 := k2 BK461) | ((with_reducible refine gc 26 rfl ?_); refine gm_ (some 9) rfl rfl Tryz.func26 (carrefourref02_Norm.calls _ _ _ _ _ _ A3.out) ag ?_; intro w28 hb; replace BK461 := bb BK461 hb; replace BK462 := bb BK462 hb; replace BK463 := bb BK463 hb; replace HB := bs HB hb; (try clear hb); have hcz29 := k2 BK461; have hnb30 := nn NB462_463; have hcz31 := k2 BK462) | ((with_reducible refine gc 26 rfl ?_); refine gm_ (some 11) rfl rfl Tryz.func26 (carrefourref02_Norm.calls _ _ _ _ _ _ A4.out) ag ?_; intro w32 hb; replace BK461 := bp_ #[.int .i64 t464, .int .i64 t465] BK461 hb; replace BK462 := bb BK462 hb; replace BK463 := bb BK463 hb; replace HB := bs HB hb; (try clear hb); have hcz33 := k2 BK462; have hcz34 := k2 BK461) | ((with_reducible refine gc 27 rfl ?_); refine gm_ (some 18) rfl rfl Tryz.func27 (carrefourref02_few.calls _ _ _ _ _ _ A19.out) ag ?_; intro w35 hb; replace BK461 := bb BK461 hb; replace BK462 := bp_ #[.int .i64 t466, .int .i64 t467] BK462 hb; replace BK463 := bb BK463 hb; replace HB := bs HB hb; (try clear hb); have hcz36 := k2 BK461; have hcz37 := k2 BK462) | ((with_reducible refine gc 10 rfl ?_); refine gm_ (some 29) rfl rfl Tryz.func10 (carrefourref02_Of.calls _ (wrap64 (t464 * t467)) (wrap64 (t465 * t466)) _ _ _ _ A21.out) ag ?_; intro w38 hb; replace BK463 := bb BK463 hb; replace HB := bs HB hb; (try clear hb); have hcz39 := k2 BK463))
      refine bodyPost_ret (results_ct rfl _ _ gb463 23 #[.int .i64 t469, .int .i64 t470] (0, 0) _ rfl (br_ BK463) Tryz.underlying23 rfl (by kernel_rfl)) rfl ?_
      exact ⟨ae, bf HB⟩
    · replace c20 := Bool.eq_false_iff.mpr c20
      subst c20
      have H1 : ((carrefourref01_Size.f t464).bind fun t472 => ((carrefourref01_Times.f k t472 (IntKind.u64.wrap (t467))).bind fun t473 => ((carrefourref02_trim.f k t473).bind fun t476 => ((carrefourref01_Size.f t466).bind fun t479 => ((carrefourref01_Times.f k (IntKind.u64.wrap (t465)) t479).bind fun t480 => ((carrefourref02_trim.f k t480).bind fun t483 => ((carrefourref02_lowest.f k t476 t483 ((decide (t464 < 0)) != (decide (t466 < 0)))).bind fun bt486 => (some (bt486.1, bt486.2.1, bt486.2.2))))))))) = some (r1, r2, r3) := by rw [if_neg (show ¬ (false = true) by decide)] at H; exact H
      clear H
      have H := H1
      clear H1
      replace H := bi_ H; obtain ⟨t472, A40, H⟩ := H
      (try dsimp only at H)
      replace H := bi_ H; obtain ⟨t473, A41, H⟩ := H
      (try dsimp only at H)
      replace H := bi_ H; obtain ⟨t476, A42, H⟩ := H
      (try dsimp only at H)
      replace H := bi_ H; obtain ⟨t479, A43, H⟩ := H
      (try dsimp only at H)
      replace H := bi_ H; obtain ⟨t480, A44, H⟩ := H
      (try dsimp only at H)
      replace H := bi_ H; obtain ⟨t483, A45, H⟩ := H
      (try dsimp only at H)
      replace H := bi_ H; obtain ⟨⟨t486, t487, t488⟩, A46, H⟩ := H
      (try dsimp only at H)
      simp only [Option.some.injEq, Prod.mk.injEq] at H
      obtain ⟨rfl, rfl, rfl⟩ := H
      go_enter Tryz.func12, Tryz.ntmps12
      try go_wp2_with (first | ((with_reducible refine gd 2 rfl ?_); refine bx_ 2 23 #[.int .i64 a0_0, .int .i64 a0_1] rfl rfl ?_; intro gb461 hg w47 BK461 hb; have GE461 := bz HB hg; replace HB := bs HB hb; clear hb hg) | ((with_reducible refine gd 3 rfl ?_); refine bx_ 3 23 #[.int .i64 a1_0, .int .i64 a1_1] rfl rfl ?_; intro gb462 hg w48 BK462 hb; have GE462 := bz HB hg; have ⟨NB461_462, NB462_461⟩ := nb BK461 hg; replace BK461 := bb BK461 hb; replace HB := bs HB hb; clear hb hg) | ((with_reducible refine gd 4 rfl ?_); refine bx_ 4 23 #[.int .i64 0, .int .i64 0] rfl rfl ?_; intro gb463 hg w49 BK463 hb; have GE463 := bz HB hg; have ⟨NB461_463, NB463_461⟩ := nb BK461 hg; have ⟨NB462_463, NB463_462⟩ := nb BK462 hg; replace BK461 := bb BK461 hb; replace BK462 := bb BK462 hb; replace HB := bs HB hb; clear hb hg; have hnb50 := nn NB461_462; have hnb51 := nn NB461_463; have hcz52 := k2 BK461) | ((with_reducible refine gc 26 rfl ?_); refine gm_ (some 9) rfl rfl Tryz.func26 (carrefourref02_Norm.calls _ _ _ _ _ _ A3.out) ag ?_; intro w53 hb; replace BK461 := bb BK461 hb; replace BK462 := bb BK462 hb; replace BK463 := bb BK463 hb; replace HB := bs HB hb; (try clear hb); have hcz54 := k2 BK461; have hnb55 := nn NB462_463; have hcz56 := k2 BK462) | ((with_reducible refine gc 26 rfl ?_); refine gm_ (some 11) rfl rfl Tryz.func26 (carrefourref02_Norm.calls _ _ _ _ _ _ A4.out) ag ?_; intro w57 hb; replace BK461 := bp_ #[.int .i64 t464, .int .i64 t465] BK461 hb; replace BK462 := bb BK462 hb; replace BK463 := bb BK463 hb; replace HB := bs HB hb; (try clear hb); have hcz58 := k2 BK462; have hcz59 := k2 BK461) | ((with_reducible refine gc 27 rfl ?_); refine gm_ (some 18) rfl rfl Tryz.func27 (carrefourref02_few.calls _ _ _ _ _ _ A19.out) ag ?_; intro w60 hb; replace BK461 := bb BK461 hb; replace BK462 := bp_ #[.int .i64 t466, .int .i64 t467] BK462 hb; replace BK463 := bb BK463 hb; replace HB := bs HB hb; (try clear hb)))
      replace BK461 := Aside0.mk (blk_drew BK461.out)
      replace BK462 := Aside0.mk (blk_drew BK462.out)
      replace BK463 := Aside0.mk (blk_drew BK463.out)
      replace HB := Aside0.mk (below_drew1 HB.out)
      refine start_ (n := 9) (S := fun w' => c_ w' gb461 0 (.int .i64 t464) ∧ c_ w' gb461 1 (.int .i64 t465) ∧ c_ w' gb462 0 (.int .i64 t466) ∧ c_ w' gb462 1 (.int .i64 t467)) (ds := []) (m_ 9 0) (by kernel_rfl) rfl rfl ⟨ct BK461 0, ct BK461 1, ct BK462 0, ct BK462 1⟩ (fun hHeld => ?_); refine with_tabW carrefourref02_Div.tab7 carrefourref02_Div.bits7 (fun HT_ HW_ => ?_)
      generalize w60.drew = w61 at BK461 BK462 BK463 HB hHeld ⊢
      refine pu_ 0 (some 32) (m_ 9 1) rfl rfl (ao HT_) ?_
      refine pu_ 3 (some 35) (m_ 9 9) rfl rfl (ao HT_) ?_
      refine tk_ 1 (some 33) (m_ 9 11) rfl rfl (tw HT_ HW_) hHeld ?_
      refine tk_ 4 (some 36) (m_ 9 27) rfl rfl (tw HT_ HW_) hHeld ?_
      refine pu_ 5 (some 37) (m_ 9 59) rfl rfl (ao HT_) ?_
      refine o1_ 2 (some 34) (m_ 9 63) rfl rfl (oo HT_) (fun K hK => ?_)
      refine gs_ rfl Tryz.func23 (carrefourref01_Size.calls _ _ _ A40.out) ag ?_
      rintro w' ⟨nd, rfl⟩
      refine hK.out _ _ ⟨ct BK461 0, ct BK461 1, ct BK462 0, ct BK462 1⟩ (fun hHeld => ?_)
      clear hK K
      refine nr_ (some 34) ?_
      refine o1_ 6 (some 38) (m_ 9 127) rfl rfl (oo HT_) (fun K hK => ?_)
      refine goes_ Tryz.func29 (by kernel_rfl) rfl #[.int .u64 t472, .int .u64 (IntKind.u64.wrap (t467))] (by rfl) rfl rfl ag ?_
      with_reducible refine (carrefourref01_Times.calls _ _ (IntKind.u64.wrap (t467)) _ _ A41.out).mono ?_
      rintro e w62 ⟨v474, rfl, ho0, hb⟩
      refine ⟨_, rfl, ?_⟩
      have HO475 := Aside0.mk (Kd.R_lower ho0 (below_size (bf HB)))
      replace BK461 := bb BK461 hb
      replace BK462 := bb BK462 hb
      replace BK463 := bb BK463 hb
      replace HB := bs HB hb
      (try clear hb); (try clear ho0)
      obtain ⟨Ao63, co63, eo63⟩ := Kd.R_slice HO475.out
      (first | subst eo63 | (injection eo63 with f1_ f2_ f3_; have f4_ := f1_.symm; have f5_ := f3_.symm; clear f1_ f2_ f3_; subst f4_; subst f5_))
      refine hK.out _ _ ⟨ct BK461 0, ct BK461 1, ct BK462 0, ct BK462 1⟩ (fun hHeld => ?_)
      clear hK K
      refine nr_ (some 38) ?_
      refine o1_ 7 (some 39) (m_ 9 255) rfl rfl (oo HT_) (fun K hK => ?_)
      refine goes_ Tryz.func28 (by kernel_rfl) rfl #[.slice Ao63 t473.length co63] (by rfl) rfl rfl ag ?_
      with_reducible refine (carrefourref02_trim.calls _ _ _ _ _ _ ?side1 ?side2 A42.out).mono ?_
      (case side1 => exact rc HO475)
      (case side2 => exact (Kd.R_reads' HO475.out).2.1)
      rintro e w64 ⟨v477, rfl, ho0, hb⟩
      refine ⟨_, rfl, ?_⟩
      have HO478 := Aside0.mk (Kd.R_lower (Kd.R_new' ho0 (rl HO475)) (below_size (bf HB)))
      replace HO475 := re_ HO475 (Kd.R_base ho0) hb
      replace BK461 := bb BK461 hb
      replace BK462 := bb BK462 hb
      replace BK463 := bb BK463 hb
      replace HB := bs HB hb
      (try clear hb); (try clear ho0)
      refine hK.out _ _ ⟨ct BK461 0, ct BK461 1, ct BK462 0, ct BK462 1⟩ (fun hHeld => ?_)
      clear hK K
      refine nr_ (some 39) ?_
      refine pu_ 8 (some 6) (m_ 9 511) rfl rfl (ao HT_) ?_
      refine done_ (done_of HT_.out (by kernel_rfl)) ?_
      try go_wp2
      replace HO475 := Aside0.mk (Kd.R_drew HO475.out)
      replace HO478 := Aside0.mk (Kd.R_drew HO478.out)
      replace BK461 := Aside0.mk (blk_drew BK461.out)
      replace BK462 := Aside0.mk (blk_drew BK462.out)
      replace BK463 := Aside0.mk (blk_drew BK463.out)
      replace HB := Aside0.mk (below_drew1 HB.out)
      refine start_ (n := 9) (S := fun w' => c_ w' gb461 0 (.int .i64 t464) ∧ c_ w' gb461 1 (.int .i64 t465) ∧ c_ w' gb462 0 (.int .i64 t466) ∧ c_ w' gb462 1 (.int .i64 t467)) (ds := []) (m_ 9 0) (by kernel_rfl) rfl rfl ⟨ct BK461 0, ct BK461 1, ct BK462 0, ct BK462 1⟩ (fun hHeld => ?_); refine with_tabW carrefourref02_Div.tab8 carrefourref02_Div.bits8 (fun HT_ HW_ => ?_)
      generalize w64.drew = w65 at HO475 HO478 BK461 BK462 BK463 HB hHeld ⊢
      refine pu_ 0 (some 40) (m_ 9 1) rfl rfl (ao HT_) ?_
      refine pu_ 3 (some 43) (m_ 9 9) rfl rfl (ao HT_) ?_
      refine tk_ 1 (some 41) (m_ 9 11) rfl rfl (tw HT_ HW_) hHeld ?_
      refine pu_ 2 (some 42) (m_ 9 15) rfl rfl (ao HT_) ?_
      refine tk_ 4 (some 44) (m_ 9 31) rfl rfl (tw HT_ HW_) hHeld ?_
      refine o1_ 5 (some 45) (m_ 9 63) rfl rfl (oo HT_) (fun K hK => ?_)
      refine gs_ rfl Tryz.func23 (carrefourref01_Size.calls _ _ _ A43.out) ag ?_
      rintro w' ⟨nd, rfl⟩
      refine hK.out _ _ ⟨ct BK461 0, ct BK461 1, ct BK462 0, ct BK462 1⟩ (fun hHeld => ?_)
      clear hK K
      refine nr_ (some 45) ?_
      refine o1_ 6 (some 46) (m_ 9 127) rfl rfl (oo HT_) (fun K hK => ?_)
      refine goes_ Tryz.func29 (by kernel_rfl) rfl #[.int .u64 (IntKind.u64.wrap (t465)), .int .u64 t479] (by rfl) rfl rfl ag ?_
      with_reducible refine (carrefourref01_Times.calls _ (IntKind.u64.wrap (t465)) _ _ _ A44.out).mono ?_
      rintro e w66 ⟨v481, rfl, ho0, hb⟩
      refine ⟨_, rfl, ?_⟩
      have HO482 := Aside0.mk (Kd.R_lower (Kd.R_new' (Kd.R_new' ho0 (rl HO475)) (rl HO478)) (below_size (bf HB)))
      replace HO475 := re_ HO475 (Kd.R_base ho0) hb
      replace HO478 := re_ HO478 (Kd.R_base ho0) hb
      replace BK461 := bb BK461 hb
      replace BK462 := bb BK462 hb
      replace BK463 := bb BK463 hb
      replace HB := bs HB hb
      (try clear hb); (try clear ho0)
      obtain ⟨Ao67, co67, eo67⟩ := Kd.R_slice HO482.out
      (first | subst eo67 | (injection eo67 with f1_ f2_ f3_; have f4_ := f1_.symm; have f5_ := f3_.symm; clear f1_ f2_ f3_; subst f4_; subst f5_))
      refine hK.out _ _ ⟨ct BK461 0, ct BK461 1, ct BK462 0, ct BK462 1⟩ (fun hHeld => ?_)
      clear hK K
      refine nr_ (some 46) ?_
      refine o1_ 7 (some 47) (m_ 9 255) rfl rfl (oo HT_) (fun K hK => ?_)
      refine goes_ Tryz.func28 (by kernel_rfl) rfl #[.slice Ao67 t480.length co67] (by rfl) rfl rfl ag ?_
      with_reducible refine (carrefourref02_trim.calls _ _ _ _ _ _ ?side1 ?side2 A45.out).mono ?_
      (case side1 => exact rc HO482)
      (case side2 => exact (Kd.R_reads' HO482.out).2.1)
      rintro e w68 ⟨v484, rfl, ho0, hb⟩
      refine ⟨_, rfl, ?_⟩
      have HO485 := Aside0.mk (Kd.R_lower (Kd.R_new' (Kd.R_new' (Kd.R_new' ho0 (rl HO475)) (rl HO478)) (rl HO482)) (below_size (bf HB)))
      replace HO475 := re_ HO475 (Kd.R_base ho0) hb
      replace HO478 := re_ HO478 (Kd.R_base ho0) hb
      replace HO482 := re_ HO482 (Kd.R_base ho0) hb
      replace BK461 := bb BK461 hb
      replace BK462 := bb BK462 hb
      replace BK463 := bb BK463 hb
      replace HB := bs HB hb
      (try clear hb); (try clear ho0)
      refine hK.out _ _ ⟨ct BK461 0, ct BK461 1, ct BK462 0, ct BK462 1⟩ (fun hHeld => ?_)
      clear hK K
      refine nr_ (some 47) ?_
      refine pu_ 8 (some 7) (m_ 9 511) rfl rfl (ao HT_) ?_
      refine done_ (done_of HT_.out (by kernel_rfl)) ?_
      have hcz69 := k2 BK461
      have hcz70 := k2 BK462
      obtain ⟨Ao71, co71, eo71⟩ := Kd.R_slice HO478.out
      subst eo71
      obtain ⟨Ao72, co72, eo72⟩ := Kd.R_slice HO485.out
      subst eo72
      try go_wp2_with (first | ((with_reducible refine gc 30 rfl ?_); refine gm_ (some 57) rfl rfl Tryz.func30 (carrefourref02_lowest.calls _ (fun k_ => some k_ = (.slice Ao71 t476.length co71 : Value).ownBlock) _ _ _ (fun k_ => some k_ = (.slice Ao72 t483.length co72 : Value).ownBlock) _ _ _ ((decide (t464 < 0)) != (decide (t466 < 0))) _ _ _ _ ?side1 ?side2 A46.out) ag ?_; (case side1 => exact Kd.R_V (Kd.R_tight rfl (Kd.R_types (Kd.R_types (Kd.R_types (HO478.out) BK461.out (by decide)) BK462.out (by decide)) BK463.out (by decide)))); (case side2 => exact Kd.R_V (Kd.R_tight rfl (Kd.R_types (Kd.R_types (Kd.R_types (HO485.out) BK461.out (by decide)) BK462.out (by decide)) BK463.out (by decide)))); intro w73 hb; replace HO475 := rb HO475 hb; replace HO478 := rb HO478 hb; replace HO482 := rb HO482 hb; replace HO485 := rb HO485 hb; replace BK463 := bb BK463 hb; replace HB := bs HB hb; (try clear hb); have hcz74 := k2 BK463))
      refine bodyPost_ret (results_ct rfl _ _ gb463 23 #[.int .i64 t486, .int .i64 t487] (0, 0) _ rfl (br_ BK463) Tryz.underlying23 rfl (by kernel_rfl)) rfl ?_
      exact ⟨ae, bf HB⟩

/-! ### carrefourref09_Volume: function 5 -/
theorem carrefourref09_Volume.calls (k : Nat) (a0_0 : ByteArray) (a0_1 : Int) (a0_2 : Int) (a0_3 : Int) (a0_4 : Int) (a0_5 : Int) (a0_6 : Int) (a0_7 : Int) (a0_8 : Int) (a0_9 : Int) (a0_10 : Int) (a1_0 : Int) (a1_1 : Int) (r1 : Int) (r2 : Int) (r3 : Int) (w : World) (h : carrefourref09_Volume.f k a0_0 a0_1 a0_2 a0_3 a0_4 a0_5 a0_6 a0_7 a0_8 a0_9 a0_10 a1_0 a1_1 = some (r1, r2, r3)) :
    Calls Tryz.prog 5 #[.agg #[.string a0_0, .int .i64 a0_1, .int .i64 a0_2, .int .i64 a0_3, .int .i64 a0_4, .int .i64 a0_5, .int .i64 a0_6, .int .i64 a0_7, .int .i64 a0_8, .int .i64 a0_9, .int .i64 a0_10], .agg #[.int .i64 a1_0, .int .i64 a1_1]] w fun e w' => e = .returned (.tuple #[.agg #[.int .i64 r1, .int .i64 r2], .int .i64 r3]) ∧ Below w.heap.size w w' := by
  have hu25 := Tryz.underlying25
  have hu23 := Tryz.underlying23
  have HB := Aside0.mk (Below.refl w.heap.size w)
  have H : ((carrefourref02_Of.f k a0_3 a0_4).bind fun bt492 => (if bt492.2.2 = 0 then ((carrefourref02_Mul.f k bt492.1 bt492.2.1 a0_1 1).bind fun bt496 => (if bt496.2.2 = 0 then ((carrefourref02_Of.f k a1_0 a1_1).bind fun bt500 => (if bt500.2.2 = 0 then ((carrefourref02_Div.f k bt496.1 bt496.2.1 bt500.1 bt500.2.1).bind fun bt504 => (some (bt504.1, bt504.2.1, bt504.2.2))) else (some (0, 0, bt500.2.2)))) else (some (0, 0, bt496.2.2)))) else (some (0, 0, bt492.2.2)))) = some (r1, r2, r3) := h
  clear h
  replace H := bi_ H; obtain ⟨⟨t492, t493, t494⟩, A3, H⟩ := H
  (try dsimp only at H)
  by_cases c4 : t494 = 0
  · rw [if_pos c4] at H
    have c4b0 : (t494 == 0) = true := beq_iff_eq.mpr c4
    have c4b1 : (t494 != 0) = false := bne_eq_false_iff_eq.mpr c4
    clear c4
    replace H := bi_ H; obtain ⟨⟨t496, t497, t498⟩, A5, H⟩ := H
    (try dsimp only at H)
    by_cases c6 : t498 = 0
    · rw [if_pos c6] at H
      have c6b0 : (t498 == 0) = true := beq_iff_eq.mpr c6
      have c6b1 : (t498 != 0) = false := bne_eq_false_iff_eq.mpr c6
      clear c6
      replace H := bi_ H; obtain ⟨⟨t500, t501, t502⟩, A7, H⟩ := H
      (try dsimp only at H)
      by_cases c8 : t502 = 0
      · rw [if_pos c8] at H
        have c8b0 : (t502 == 0) = true := beq_iff_eq.mpr c8
        have c8b1 : (t502 != 0) = false := bne_eq_false_iff_eq.mpr c8
        clear c8
        replace H := bi_ H; obtain ⟨⟨t504, t505, t506⟩, A9, H⟩ := H
        (try dsimp only at H)
        simp only [Option.some.injEq, Prod.mk.injEq] at H
        obtain ⟨rfl, rfl, rfl⟩ := H
        go_enter Tryz.func5, Tryz.ntmps5
        go_wp2_with (first | ((with_reducible refine gd 2 rfl ?_); refine bx_ 2 25 #[.string a0_0, .int .i64 a0_1, .int .i64 a0_2, .int .i64 a0_3, .int .i64 a0_4, .int .i64 a0_5, .int .i64 a0_6, .int .i64 a0_7, .int .i64 a0_8, .int .i64 a0_9, .int .i64 a0_10] rfl rfl ?_; intro gb489 hg w10 BK489 hb; have GE489 := bz HB hg; replace HB := bs HB hb; clear hb hg) | ((with_reducible refine gd 3 rfl ?_); refine bx_ 3 23 #[.int .i64 a1_0, .int .i64 a1_1] rfl rfl ?_; intro gb490 hg w11 BK490 hb; have GE490 := bz HB hg; have ⟨NB489_490, NB490_489⟩ := nb BK489 hg; replace BK489 := bb BK489 hb; replace HB := bs HB hb; clear hb hg) | ((with_reducible refine gd 4 rfl ?_); refine bx_ 4 23 #[.int .i64 0, .int .i64 0] rfl rfl ?_; intro gb491 hg w12 BK491 hb; have GE491 := bz HB hg; have ⟨NB489_491, NB491_489⟩ := nb BK489 hg; have ⟨NB490_491, NB491_490⟩ := nb BK490 hg; replace BK489 := bb BK489 hb; replace BK490 := bb BK490 hb; replace HB := bs HB hb; clear hb hg; have hnb13 := nn NB489_490; have hnb14 := nn NB489_491; have hcz15 := k11 BK489) | ((with_reducible refine gc 10 rfl ?_); refine gm_ (some 17) rfl rfl Tryz.func10 (carrefourref02_Of.calls _ _ _ _ _ _ _ A3.out) ag ?_; intro w16 hb; replace BK489 := bb BK489 hb; replace BK490 := bb BK490 hb; replace BK491 := bb BK491 hb; replace HB := bs HB hb; (try clear hb)) | ((with_reducible refine gd 6 rfl ?_); refine bx_ 6 23 #[.int .i64 0, .int .i64 0] rfl rfl ?_; intro gb495 hg w17 BK495 hb; have GE495 := bz HB hg; have ⟨NB489_495, NB495_489⟩ := nb BK489 hg; have ⟨NB490_495, NB495_490⟩ := nb BK490 hg; have ⟨NB491_495, NB495_491⟩ := nb BK491 hg; replace BK489 := bb BK489 hb; replace BK490 := bb BK490 hb; replace BK491 := bb BK491 hb; replace HB := bs HB hb; clear hb hg; have hnb18 := nn NB495_489; have hnb19 := nn NB495_490; have hnb20 := nn NB495_491; have hcz21 := k2 BK495; have hcz22 := k11 BK489) | ((with_reducible refine gc 11 rfl ?_); refine gm_ (some 29) rfl rfl Tryz.func11 (carrefourref02_Mul.calls _ _ _ _ _ _ _ _ _ A5.out) ag ?_; intro w23 hb; replace BK489 := bb BK489 hb; replace BK490 := bb BK490 hb; replace BK491 := bb BK491 hb; replace BK495 := bp_ #[.int .i64 t492, .int .i64 t493] BK495 hb; replace HB := bs HB hb; (try clear hb)) | ((with_reducible refine gd 8 rfl ?_); refine bx_ 8 23 #[.int .i64 0, .int .i64 0] rfl rfl ?_; intro gb499 hg w24 BK499 hb; have GE499 := bz HB hg; have ⟨NB489_499, NB499_489⟩ := nb BK489 hg; have ⟨NB490_499, NB499_490⟩ := nb BK490 hg; have ⟨NB491_499, NB499_491⟩ := nb BK491 hg; have ⟨NB495_499, NB499_495⟩ := nb BK495 hg; replace BK489 := bb BK489 hb; replace BK490 := bb BK490 hb; replace BK491 := bb BK491 hb; replace BK495 := bb BK495 hb; replace HB := bs HB hb; clear hb hg; have hnb25 := nn NB499_489; have hnb26 := nn NB499_490; have hnb27 := nn NB499_491; have hnb28 := nn NB499_495; have hcz29 := k2 BK499; have hnb30 := nn NB490_491; have hcz31 := k2 BK490) | ((with_reducible refine gc 10 rfl ?_); refine gm_ (some 41) rfl rfl Tryz.func10 (carrefourref02_Of.calls _ _ _ _ _ _ _ A7.out) ag ?_; intro w32 hb; replace BK489 := bb BK489 hb; replace BK490 := bb BK490 hb; replace BK491 := bb BK491 hb; replace BK495 := bb BK495 hb; replace BK499 := bp_ #[.int .i64 t496, .int .i64 t497] BK499 hb; replace HB := bs HB hb; (try clear hb)) | ((with_reducible refine gd 9 rfl ?_); refine bx_ 9 23 #[.int .i64 0, .int .i64 0] rfl rfl ?_; intro gb503 hg w33 BK503 hb; have GE503 := bz HB hg; have ⟨NB489_503, NB503_489⟩ := nb BK489 hg; have ⟨NB490_503, NB503_490⟩ := nb BK490 hg; have ⟨NB491_503, NB503_491⟩ := nb BK491 hg; have ⟨NB495_503, NB503_495⟩ := nb BK495 hg; have ⟨NB499_503, NB503_499⟩ := nb BK499 hg; replace BK491 := bb BK491 hb; replace BK499 := bb BK499 hb; replace HB := bs HB hb; clear hb hg; have hnb34 := nn NB503_489; have hnb35 := nn NB503_490; have hnb36 := nn NB503_491; have hnb37 := nn NB503_495; have hnb38 := nn NB503_499; have hcz39 := k2 BK503; have hcz40 := k2 BK499) | ((with_reducible refine gc 12 rfl ?_); refine gm_ (some 50) rfl rfl Tryz.func12 (carrefourref02_Div.calls _ _ _ _ _ _ _ _ _ A9.out) ag ?_; intro w41 hb; replace BK491 := bb BK491 hb; replace BK503 := bp_ #[.int .i64 t500, .int .i64 t501] BK503 hb; replace HB := bs HB hb; (try clear hb); have hcz42 := k2 BK491))
        refine bodyPost_ret (results_ct rfl _ _ gb491 23 #[.int .i64 t504, .int .i64 t505] (0, 0) _ rfl (br_ BK491) Tryz.underlying23 rfl (by kernel_rfl)) rfl ?_
        exact ⟨ae, bf HB⟩
      · rw [if_neg c8] at H
        have c8b0 : (t502 == 0) = false := beq_eq_false_iff_ne.mpr c8
        have c8b1 : (t502 != 0) = true := bne_iff_ne.mpr c8
        simp only [Option.some.injEq, Prod.mk.injEq] at H
        obtain ⟨rfl, rfl, rfl⟩ := H
        go_enter Tryz.func5, Tryz.ntmps5
        go_wp2_with (first | ((with_reducible refine gd 2 rfl ?_); refine bx_ 2 25 #[.string a0_0, .int .i64 a0_1, .int .i64 a0_2, .int .i64 a0_3, .int .i64 a0_4, .int .i64 a0_5, .int .i64 a0_6, .int .i64 a0_7, .int .i64 a0_8, .int .i64 a0_9, .int .i64 a0_10] rfl rfl ?_; intro gb489 hg w43 BK489 hb; have GE489 := bz HB hg; replace HB := bs HB hb; clear hb hg) | ((with_reducible refine gd 3 rfl ?_); refine bx_ 3 23 #[.int .i64 a1_0, .int .i64 a1_1] rfl rfl ?_; intro gb490 hg w44 BK490 hb; have GE490 := bz HB hg; have ⟨NB489_490, NB490_489⟩ := nb BK489 hg; replace BK489 := bb BK489 hb; replace HB := bs HB hb; clear hb hg) | ((with_reducible refine gd 4 rfl ?_); refine bx_ 4 23 #[.int .i64 0, .int .i64 0] rfl rfl ?_; intro gb491 hg w45 BK491 hb; have GE491 := bz HB hg; have ⟨NB489_491, NB491_489⟩ := nb BK489 hg; have ⟨NB490_491, NB491_490⟩ := nb BK490 hg; replace BK489 := bb BK489 hb; replace BK490 := bb BK490 hb; replace HB := bs HB hb; clear hb hg; have hnb46 := nn NB489_490; have hnb47 := nn NB489_491; have hcz48 := k11 BK489) | ((with_reducible refine gc 10 rfl ?_); refine gm_ (some 17) rfl rfl Tryz.func10 (carrefourref02_Of.calls _ _ _ _ _ _ _ A3.out) ag ?_; intro w49 hb; replace BK489 := bb BK489 hb; replace BK490 := bb BK490 hb; replace BK491 := bb BK491 hb; replace HB := bs HB hb; (try clear hb)) | ((with_reducible refine gd 6 rfl ?_); refine bx_ 6 23 #[.int .i64 0, .int .i64 0] rfl rfl ?_; intro gb495 hg w50 BK495 hb; have GE495 := bz HB hg; have ⟨NB489_495, NB495_489⟩ := nb BK489 hg; have ⟨NB490_495, NB495_490⟩ := nb BK490 hg; have ⟨NB491_495, NB495_491⟩ := nb BK491 hg; replace BK489 := bb BK489 hb; replace BK490 := bb BK490 hb; replace BK491 := bb BK491 hb; replace HB := bs HB hb; clear hb hg; have hnb51 := nn NB495_489; have hnb52 := nn NB495_490; have hnb53 := nn NB495_491; have hcz54 := k2 BK495; have hcz55 := k11 BK489) | ((with_reducible refine gc 11 rfl ?_); refine gm_ (some 29) rfl rfl Tryz.func11 (carrefourref02_Mul.calls _ _ _ _ _ _ _ _ _ A5.out) ag ?_; intro w56 hb; replace BK489 := bb BK489 hb; replace BK490 := bb BK490 hb; replace BK491 := bb BK491 hb; replace BK495 := bp_ #[.int .i64 t492, .int .i64 t493] BK495 hb; replace HB := bs HB hb; (try clear hb)) | ((with_reducible refine gd 8 rfl ?_); refine bx_ 8 23 #[.int .i64 0, .int .i64 0] rfl rfl ?_; intro gb499 hg w57 BK499 hb; have GE499 := bz HB hg; have ⟨NB489_499, NB499_489⟩ := nb BK489 hg; have ⟨NB490_499, NB499_490⟩ := nb BK490 hg; have ⟨NB491_499, NB499_491⟩ := nb BK491 hg; have ⟨NB495_499, NB499_495⟩ := nb BK495 hg; replace BK489 := bb BK489 hb; replace BK490 := bb BK490 hb; replace BK491 := bb BK491 hb; replace BK495 := bb BK495 hb; replace HB := bs HB hb; clear hb hg; have hnb58 := nn NB499_489; have hnb59 := nn NB499_490; have hnb60 := nn NB499_491; have hnb61 := nn NB499_495; have hcz62 := k2 BK499; have hnb63 := nn NB490_491; have hcz64 := k2 BK490) | ((with_reducible refine gc 10 rfl ?_); refine gm_ (some 41) rfl rfl Tryz.func10 (carrefourref02_Of.calls _ _ _ _ _ _ _ A7.out) ag ?_; intro w65 hb; replace BK489 := bb BK489 hb; replace BK490 := bb BK490 hb; replace BK491 := bb BK491 hb; replace BK495 := bb BK495 hb; replace BK499 := bp_ #[.int .i64 t496, .int .i64 t497] BK499 hb; replace HB := bs HB hb; (try clear hb)) | ((with_reducible refine gd 9 rfl ?_); refine bx_ 9 23 #[.int .i64 0, .int .i64 0] rfl rfl ?_; intro gb503 hg w66 BK503 hb; have GE503 := bz HB hg; have ⟨NB489_503, NB503_489⟩ := nb BK489 hg; have ⟨NB490_503, NB503_490⟩ := nb BK490 hg; have ⟨NB491_503, NB503_491⟩ := nb BK491 hg; have ⟨NB495_503, NB503_495⟩ := nb BK495 hg; have ⟨NB499_503, NB503_499⟩ := nb BK499 hg; replace BK491 := bb BK491 hb; replace HB := bs HB hb; clear hb hg; have hnb67 := nn NB503_489; have hnb68 := nn NB503_490; have hnb69 := nn NB503_491; have hnb70 := nn NB503_495; have hnb71 := nn NB503_499; have hcz72 := k2 BK503; have hcz73 := k2 BK491))
        refine bodyPost_ret (results_ct rfl _ _ gb491 23 #[.int .i64 0, .int .i64 0] (0, 0) _ rfl (br_ BK491) Tryz.underlying23 rfl (by kernel_rfl)) rfl ?_
        exact ⟨ae, bf HB⟩
    · rw [if_neg c6] at H
      have c6b0 : (t498 == 0) = false := beq_eq_false_iff_ne.mpr c6
      have c6b1 : (t498 != 0) = true := bne_iff_ne.mpr c6
      simp only [Option.some.injEq, Prod.mk.injEq] at H
      obtain ⟨rfl, rfl, rfl⟩ := H
      go_enter Tryz.func5, Tryz.ntmps5
      go_wp2_with (first | ((with_reducible refine gd 2 rfl ?_); refine bx_ 2 25 #[.string a0_0, .int .i64 a0_1, .int .i64 a0_2, .int .i64 a0_3, .int .i64 a0_4, .int .i64 a0_5, .int .i64 a0_6, .int .i64 a0_7, .int .i64 a0_8, .int .i64 a0_9, .int .i64 a0_10] rfl rfl ?_; intro gb489 hg w74 BK489 hb; have GE489 := bz HB hg; replace HB := bs HB hb; clear hb hg) | ((with_reducible refine gd 3 rfl ?_); refine bx_ 3 23 #[.int .i64 a1_0, .int .i64 a1_1] rfl rfl ?_; intro gb490 hg w75 BK490 hb; have GE490 := bz HB hg; have ⟨NB489_490, NB490_489⟩ := nb BK489 hg; replace BK489 := bb BK489 hb; replace HB := bs HB hb; clear hb hg) | ((with_reducible refine gd 4 rfl ?_); refine bx_ 4 23 #[.int .i64 0, .int .i64 0] rfl rfl ?_; intro gb491 hg w76 BK491 hb; have GE491 := bz HB hg; have ⟨NB489_491, NB491_489⟩ := nb BK489 hg; have ⟨NB490_491, NB491_490⟩ := nb BK490 hg; replace BK489 := bb BK489 hb; replace BK490 := bb BK490 hb; replace HB := bs HB hb; clear hb hg; have hnb77 := nn NB489_490; have hnb78 := nn NB489_491; have hcz79 := k11 BK489) | ((with_reducible refine gc 10 rfl ?_); refine gm_ (some 17) rfl rfl Tryz.func10 (carrefourref02_Of.calls _ _ _ _ _ _ _ A3.out) ag ?_; intro w80 hb; replace BK489 := bb BK489 hb; replace BK490 := bb BK490 hb; replace BK491 := bb BK491 hb; replace HB := bs HB hb; (try clear hb)) | ((with_reducible refine gd 6 rfl ?_); refine bx_ 6 23 #[.int .i64 0, .int .i64 0] rfl rfl ?_; intro gb495 hg w81 BK495 hb; have GE495 := bz HB hg; have ⟨NB489_495, NB495_489⟩ := nb BK489 hg; have ⟨NB490_495, NB495_490⟩ := nb BK490 hg; have ⟨NB491_495, NB495_491⟩ := nb BK491 hg; replace BK489 := bb BK489 hb; replace BK490 := bb BK490 hb; replace BK491 := bb BK491 hb; replace HB := bs HB hb; clear hb hg; have hnb82 := nn NB495_489; have hnb83 := nn NB495_490; have hnb84 := nn NB495_491; have hcz85 := k2 BK495; have hcz86 := k11 BK489) | ((with_reducible refine gc 11 rfl ?_); refine gm_ (some 29) rfl rfl Tryz.func11 (carrefourref02_Mul.calls _ _ _ _ _ _ _ _ _ A5.out) ag ?_; intro w87 hb; replace BK489 := bb BK489 hb; replace BK490 := bb BK490 hb; replace BK491 := bb BK491 hb; replace BK495 := bp_ #[.int .i64 t492, .int .i64 t493] BK495 hb; replace HB := bs HB hb; (try clear hb)) | ((with_reducible refine gd 8 rfl ?_); refine bx_ 8 23 #[.int .i64 0, .int .i64 0] rfl rfl ?_; intro gb499 hg w88 BK499 hb; have GE499 := bz HB hg; have ⟨NB489_499, NB499_489⟩ := nb BK489 hg; have ⟨NB490_499, NB499_490⟩ := nb BK490 hg; have ⟨NB491_499, NB499_491⟩ := nb BK491 hg; have ⟨NB495_499, NB499_495⟩ := nb BK495 hg; replace BK491 := bb BK491 hb; replace HB := bs HB hb; clear hb hg; have hnb89 := nn NB499_489; have hnb90 := nn NB499_490; have hnb91 := nn NB499_491; have hnb92 := nn NB499_495; have hcz93 := k2 BK499; have hnb94 := nn NB491_490; have hcz95 := k2 BK491))
      refine bodyPost_ret (results_ct rfl _ _ gb491 23 #[.int .i64 0, .int .i64 0] (0, 0) _ rfl (br_ BK491) Tryz.underlying23 rfl (by kernel_rfl)) rfl ?_
      exact ⟨ae, bf HB⟩
  · rw [if_neg c4] at H
    have c4b0 : (t494 == 0) = false := beq_eq_false_iff_ne.mpr c4
    have c4b1 : (t494 != 0) = true := bne_iff_ne.mpr c4
    simp only [Option.some.injEq, Prod.mk.injEq] at H
    obtain ⟨rfl, rfl, rfl⟩ := H
    go_enter Tryz.func5, Tryz.ntmps5
    go_wp2_with (first | ((with_reducible refine gd 2 rfl ?_); refine bx_ 2 25 #[.string a0_0, .int .i64 a0_1, .int .i64 a0_2, .int .i64 a0_3, .int .i64 a0_4, .int .i64 a0_5, .int .i64 a0_6, .int .i64 a0_7, .int .i64 a0_8, .int .i64 a0_9, .int .i64 a0_10] rfl rfl ?_; intro gb489 hg w96 BK489 hb; have GE489 := bz HB hg; replace HB := bs HB hb; clear hb hg) | ((with_reducible refine gd 3 rfl ?_); refine bx_ 3 23 #[.int .i64 a1_0, .int .i64 a1_1] rfl rfl ?_; intro gb490 hg w97 BK490 hb; have GE490 := bz HB hg; have ⟨NB489_490, NB490_489⟩ := nb BK489 hg; replace BK489 := bb BK489 hb; replace HB := bs HB hb; clear hb hg) | ((with_reducible refine gd 4 rfl ?_); refine bx_ 4 23 #[.int .i64 0, .int .i64 0] rfl rfl ?_; intro gb491 hg w98 BK491 hb; have GE491 := bz HB hg; have ⟨NB489_491, NB491_489⟩ := nb BK489 hg; have ⟨NB490_491, NB491_490⟩ := nb BK490 hg; replace BK489 := bb BK489 hb; replace BK490 := bb BK490 hb; replace HB := bs HB hb; clear hb hg; have hnb99 := nn NB489_490; have hnb100 := nn NB489_491; have hcz101 := k11 BK489) | ((with_reducible refine gc 10 rfl ?_); refine gm_ (some 17) rfl rfl Tryz.func10 (carrefourref02_Of.calls _ _ _ _ _ _ _ A3.out) ag ?_; intro w102 hb; replace BK489 := bb BK489 hb; replace BK490 := bb BK490 hb; replace BK491 := bb BK491 hb; replace HB := bs HB hb; (try clear hb)) | ((with_reducible refine gd 6 rfl ?_); refine bx_ 6 23 #[.int .i64 0, .int .i64 0] rfl rfl ?_; intro gb495 hg w103 BK495 hb; have GE495 := bz HB hg; have ⟨NB489_495, NB495_489⟩ := nb BK489 hg; have ⟨NB490_495, NB495_490⟩ := nb BK490 hg; have ⟨NB491_495, NB495_491⟩ := nb BK491 hg; replace BK491 := bb BK491 hb; replace HB := bs HB hb; clear hb hg; have hnb104 := nn NB495_489; have hnb105 := nn NB495_490; have hnb106 := nn NB495_491; have hcz107 := k2 BK495; have hnb108 := nn NB491_490; have hcz109 := k2 BK491))
    refine bodyPost_ret (results_ct rfl _ _ gb491 23 #[.int .i64 0, .int .i64 0] (0, 0) _ rfl (br_ BK491) Tryz.underlying23 rfl (by kernel_rfl)) rfl ?_
    exact ⟨ae, bf HB⟩

end Go.Proofs.YtcdaedhphdmnoaaGreatDoor.X
