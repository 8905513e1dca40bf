/- The walks of functions of the program, laid by a program of this session over the translation: each '.calls' says that the Go function comes to what its Lean function tells. Conditions: as each theorem's head says. -/
import Derived.Test.YtpdmiookdmncpaaDoorXD
import Derived.Test.YtpdmiookdmncpaaDoorX0
import Derived.Test.YtpdmiookdmncpaaDoorX9
import Derived.Test.YtpdmiookdmncpaaDoorX10
import Derived.Test.YtpdmiookdmncpaaDoorX11
import Derived.Test.YtpdmiookdmncpaaDoorX12
import Derived.Test.YtpdmiookdmncpaaDoorX13
namespace Go.Proofs.YtpdmiookdmncpaaDoor.X
open Go.RowKit Go.Proofs.YtpdmiookdmncpaaDoorW.PrintWords Go.Proofs.YtpdmiookdmncpaaDoorW.PrintLast Go.Proofs.YtpdmiookdmncpaaDoorW.PrintMore
attribute [local go_sem] max2_int min2_int max_two min_two max_three min_three max_four min_four   -- for this text's walks alone
set_option linter.unusedVariables false
set_option linter.unusedSimpArgs false

/-! ### carrefourref02_Mul: function 18 -/
def carrefourref02_Mul.T5 : Bool × List (List Nat × List Nat) := (true, [([], []), ([0], [0]), ([1], [1]), ([], []), ([3], [3]), ([4, 2], [4]), ([2, 5, 5], [2, 5]), ([6, 6], [6]), ([7, 7, 0, 1, 2, 3, 4, 5, 6, 7], [7])])
def carrefourref02_Mul.B5 : List Nat := [0, 1, 3, 0, 8, 31, 63, 127, 255]
theorem carrefourref02_Mul.tab5 : rtab .any (opsOf Tryd.f18 5) = carrefourref02_Mul.T5 := by kernel_rfl
theorem carrefourref02_Mul.bits5 : waitsOk carrefourref02_Mul.T5.2 carrefourref02_Mul.B5 = true := by kernel_rfl
set_option maxHeartbeats 8000000 in
set_option maxRecDepth 100000 in
theorem carrefourref02_Mul.calls (k : Nat) (a0_0 : Int) (a0_1 : Int) (a1_0 : Int) (a1_1 : Int) (r1 : Int) (r2 : Int) (r3 : Int) (w : World) (h : carrefourref02_Mul.f k a0_0 a0_1 a1_0 a1_1 = some (r1, r2, r3)) :
    Calls Tryd.prog 18 #[.agg #[.int .i64 a0_0, .int .i64 a0_1], .agg #[.int .i64 a1_0, .int .i64 a1_1]] w fun e w' => e = .returned (.tuple #[.agg #[.int .i64 r1, .int .i64 r2], .int .i64 r3]) ∧ Below w.heap.size w w' := by
  have hu23 := Tryd.underlying23
  have HB := Aside0.mk (Below.refl w.heap.size w)
  have H : ((carrefourref02_Norm.f k a0_0 a0_1).bind fun bt644 => ((carrefourref02_Norm.f k a1_0 a1_1).bind fun bt646 => ((carrefourref02_few.f bt644.1 bt644.2 bt646.1 bt646.2).bind fun t648 => (if t648 = true then ((carrefourref02_Of.f k (wrap64 (bt644.1 * bt646.1)) (wrap64 (bt644.2 * bt646.2))).bind fun bt649 => (some (bt649.1, bt649.2.1, bt649.2.2))) else ((carrefourref01_Size.f bt644.1).bind fun t652 => ((carrefourref01_Size.f bt646.1).bind fun t653 => ((carrefourref01_Times.f k t652 t653).bind fun t654 => ((carrefourref02_trim.f k t654).bind fun t657 => ((carrefourref01_Times.f k (IntKind.u64.wrap (bt644.2)) (IntKind.u64.wrap (bt646.2))).bind fun t660 => ((carrefourref02_trim.f k t660).bind fun t663 => ((carrefourref02_lowest.f k t657 t663 ((decide (bt644.1 < 0)) != (decide (bt646.1 < 0)))).bind fun bt666 => (some (bt666.1, bt666.2.1, bt666.2.2))))))))))))) = some (r1, r2, r3) := h
  clear h
  replace H := bi_ H; obtain ⟨⟨t644, t645⟩, A3, H⟩ := H
  (try dsimp only at H)
  replace H := bi_ H; obtain ⟨⟨t646, t647⟩, A4, H⟩ := H
  (try dsimp only at H)
  replace H := bi_ H; obtain ⟨t648, A5, H⟩ := H
  (try dsimp only at H)
  by_cases c6 : t648 = true
  · subst c6
    have H1 : ((carrefourref02_Of.f k (wrap64 (t644 * t646)) (wrap64 (t645 * t647))).bind fun bt649 => (some (bt649.1, bt649.2.1, bt649.2.2))) = some (r1, r2, r3) := by rw [if_pos rfl] at H; exact H
    clear H
    have H := H1
    clear H1
    replace H := bi_ H; obtain ⟨⟨t649, t650, t651⟩, A7, H⟩ := H
    (try dsimp only at H)
    simp only [Option.some.injEq, Prod.mk.injEq] at H
    obtain ⟨rfl, rfl, rfl⟩ := H
    go_enter Tryd.func18, Tryd.ntmps18
    go_wp2_with (first | ((with_reducible refine gd 2 rfl ?_); refine bx_ 2 23 #[.int .i64 a0_0, .int .i64 a0_1] rfl rfl ?_; intro gb641 hg w8 BK641 hb; have GE641 := bz HB hg; replace HB := bs HB hb; clear hb hg) | ((with_reducible refine gd 3 rfl ?_); refine bx_ 3 23 #[.int .i64 a1_0, .int .i64 a1_1] rfl rfl ?_; intro gb642 hg w9 BK642 hb; have GE642 := bz HB hg; have ⟨NB641_642, NB642_641⟩ := nb BK641 hg; replace BK641 := bb BK641 hb; replace HB := bs HB hb; clear hb hg) | ((with_reducible refine gd 4 rfl ?_); refine bx_ 4 23 #[.int .i64 0, .int .i64 0] rfl rfl ?_; intro gb643 hg w10 BK643 hb; have GE643 := bz HB hg; have ⟨NB641_643, NB643_641⟩ := nb BK641 hg; have ⟨NB642_643, NB643_642⟩ := nb BK642 hg; replace BK641 := bb BK641 hb; replace BK642 := bb BK642 hb; replace HB := bs HB hb; clear hb hg; have hnb11 := nn NB641_642; have hnb12 := nn NB641_643; have hcz13 := k2 BK641) | ((with_reducible refine gc 45 rfl ?_); refine gl_ (some 9) rfl rfl Tryd.func45 ((carrefourref02_Norm.calls _ _ _ _ _ _ A3.out).mono ?_) ag; rintro e w14 ⟨rfl, hb⟩; refine ⟨_, rfl, ?_⟩; replace BK641 := bb BK641 hb; replace BK642 := bb BK642 hb; replace BK643 := bb BK643 hb; replace HB := bs HB hb; (try clear hb); have hcz15 := k2 BK641; have hnb16 := nn NB642_643; have hcz17 := k2 BK642) | ((with_reducible refine gc 45 rfl ?_); refine gl_ (some 11) rfl rfl Tryd.func45 ((carrefourref02_Norm.calls _ _ _ _ _ _ A4.out).mono ?_) ag; rintro e w18 ⟨rfl, hb⟩; refine ⟨_, rfl, ?_⟩; replace BK641 := bp_ #[.int .i64 t644, .int .i64 t645] BK641 hb; replace BK642 := bb BK642 hb; replace BK643 := bb BK643 hb; replace HB := bs HB hb; (try clear hb); have hcz19 := k2 BK642; have hcz20 := k2 BK641) | ((with_reducible refine gc 46 rfl ?_); refine gl_ (some 14) rfl rfl Tryd.func46 ((carrefourref02_few.calls _ _ _ _ _ _ A5.out).mono ?_) ag; rintro e w21 ⟨rfl, hb⟩; refine ⟨_, rfl, ?_⟩; replace BK641 := bb BK641 hb; replace BK642 := bp_ #[.int .i64 t646, .int .i64 t647] BK642 hb; replace BK643 := bb BK643 hb; replace HB := bs HB hb; (try clear hb); have hcz22 := k2 BK641; have hcz23 := k2 BK642) | ((with_reducible refine gc 17 rfl ?_); refine gl_ (some 25) rfl rfl Tryd.func17 ((carrefourref02_Of.calls _ (wrap64 (t644 * t646)) (wrap64 (t645 * t647)) _ _ _ _ A7.out).mono ?_) ag; rintro e w24 ⟨rfl, hb⟩; refine ⟨_, rfl, ?_⟩; replace BK641 := bb BK641 hb; replace BK642 := bb BK642 hb; replace BK643 := bb BK643 hb; replace HB := bs HB hb; (try clear hb); have hcz25 := k2 BK643))
    refine bodyPost_ret (results_ct rfl _ _ gb643 23 #[.int .i64 t649, .int .i64 t650] (0, 0) _ rfl (br_ BK643) Tryd.underlying23 rfl (by kernel_rfl)) rfl ?_
    exact ⟨by first | rfl | (simp [errW_none, errW_some] <;> rfl) | (simp [*, errW_none, errW_some] <;> rfl), bf HB⟩
  · replace c6 := Bool.eq_false_iff.mpr c6
    subst c6
    have H1 : ((carrefourref01_Size.f t644).bind fun t652 => ((carrefourref01_Size.f t646).bind fun t653 => ((carrefourref01_Times.f k t652 t653).bind fun t654 => ((carrefourref02_trim.f k t654).bind fun t657 => ((carrefourref01_Times.f k (IntKind.u64.wrap (t645)) (IntKind.u64.wrap (t647))).bind fun t660 => ((carrefourref02_trim.f k t660).bind fun t663 => ((carrefourref02_lowest.f k t657 t663 ((decide (t644 < 0)) != (decide (t646 < 0)))).bind fun bt666 => (some (bt666.1, bt666.2.1, bt666.2.2))))))))) = some (r1, r2, r3) := by rw [if_neg (show ¬ (false = true) by decide)] at H; exact H
    clear H
    have H := H1
    clear H1
    replace H := bi_ H; obtain ⟨t652, A26, H⟩ := H
    (try dsimp only at H)
    replace H := bi_ H; obtain ⟨t653, A27, H⟩ := H
    (try dsimp only at H)
    replace H := bi_ H; obtain ⟨t654, A28, H⟩ := H
    (try dsimp only at H)
    replace H := bi_ H; obtain ⟨t657, A29, H⟩ := H
    (try dsimp only at H)
    replace H := bi_ H; obtain ⟨t660, A30, H⟩ := H
    (try dsimp only at H)
    replace H := bi_ H; obtain ⟨t663, A31, H⟩ := H
    (try dsimp only at H)
    replace H := bi_ H; obtain ⟨⟨t666, t667, t668⟩, A32, H⟩ := H
    (try dsimp only at H)
    simp only [Option.some.injEq, Prod.mk.injEq] at H
    obtain ⟨rfl, rfl, rfl⟩ := H
    go_enter Tryd.func18, Tryd.ntmps18
    try go_wp2_with (first | ((with_reducible refine gd 2 rfl ?_); refine bx_ 2 23 #[.int .i64 a0_0, .int .i64 a0_1] rfl rfl ?_; intro gb641 hg w33 BK641 hb; have GE641 := bz HB hg; replace HB := bs HB hb; clear hb hg) | ((with_reducible refine gd 3 rfl ?_); refine bx_ 3 23 #[.int .i64 a1_0, .int .i64 a1_1] rfl rfl ?_; intro gb642 hg w34 BK642 hb; have GE642 := bz HB hg; have ⟨NB641_642, NB642_641⟩ := nb BK641 hg; replace BK641 := bb BK641 hb; replace HB := bs HB hb; clear hb hg) | ((with_reducible refine gd 4 rfl ?_); refine bx_ 4 23 #[.int .i64 0, .int .i64 0] rfl rfl ?_; intro gb643 hg w35 BK643 hb; have GE643 := bz HB hg; have ⟨NB641_643, NB643_641⟩ := nb BK641 hg; have ⟨NB642_643, NB643_642⟩ := nb BK642 hg; replace BK641 := bb BK641 hb; replace BK642 := bb BK642 hb; replace HB := bs HB hb; clear hb hg; have hnb36 := nn NB641_642; have hnb37 := nn NB641_643; have hcz38 := k2 BK641) | ((with_reducible refine gc 45 rfl ?_); refine gl_ (some 9) rfl rfl Tryd.func45 ((carrefourref02_Norm.calls _ _ _ _ _ _ A3.out).mono ?_) ag; rintro e w39 ⟨rfl, hb⟩; refine ⟨_, rfl, ?_⟩; replace BK641 := bb BK641 hb; replace BK642 := bb BK642 hb; replace BK643 := bb BK643 hb; replace HB := bs HB hb; (try clear hb); have hcz40 := k2 BK641; have hnb41 := nn NB642_643; have hcz42 := k2 BK642) | ((with_reducible refine gc 45 rfl ?_); refine gl_ (some 11) rfl rfl Tryd.func45 ((carrefourref02_Norm.calls _ _ _ _ _ _ A4.out).mono ?_) ag; rintro e w43 ⟨rfl, hb⟩; refine ⟨_, rfl, ?_⟩; replace BK641 := bp_ #[.int .i64 t644, .int .i64 t645] BK641 hb; replace BK642 := bb BK642 hb; replace BK643 := bb BK643 hb; replace HB := bs HB hb; (try clear hb); have hcz44 := k2 BK642; have hcz45 := k2 BK641) | ((with_reducible refine gc 46 rfl ?_); refine gl_ (some 14) rfl rfl Tryd.func46 ((carrefourref02_few.calls _ _ _ _ _ _ A5.out).mono ?_) ag; rintro e w46 ⟨rfl, hb⟩; refine ⟨_, rfl, ?_⟩; replace BK641 := bb BK641 hb; replace BK642 := bp_ #[.int .i64 t646, .int .i64 t647] BK642 hb; replace BK643 := bb BK643 hb; replace HB := bs HB hb; (try clear hb)))
    replace BK641 := Aside0.mk (blk_drew BK641.out)
    replace BK642 := Aside0.mk (blk_drew BK642.out)
    replace BK643 := Aside0.mk (blk_drew BK643.out)
    replace HB := Aside0.mk (below_drew1 HB.out)
    refine start_ (n := 9) (S := fun w' => w'.cell? ⟨gb641, 0, none⟩ = some (.int .i64 t644) ∧ w'.cell? ⟨gb641, 1, none⟩ = some (.int .i64 t645) ∧ w'.cell? ⟨gb642, 0, none⟩ = some (.int .i64 t646) ∧ w'.cell? ⟨gb642, 1, none⟩ = some (.int .i64 t647)) (ds := []) (m_ 9 0) (by kernel_rfl) rfl rfl ⟨ct BK641 0, ct BK641 1, ct BK642 0, ct BK642 1⟩ (fun hHeld => ?_); refine with_tabW carrefourref02_Mul.tab5 carrefourref02_Mul.bits5 (fun HT_ HW_ => ?_)
    generalize w46.drew = w47 at BK641 BK642 BK643 HB hHeld ⊢
    refine pu_ 0 (some 28) (m_ 9 1) rfl rfl (ao HT_) ?_
    refine pu_ 3 (some 31) (m_ 9 9) rfl rfl (ao HT_) ?_
    refine tk_ 1 (some 29) (m_ 9 11) rfl rfl (tw HT_ HW_) hHeld ?_
    refine tk_ 4 (some 32) (m_ 9 27) rfl rfl (tw HT_ HW_) hHeld ?_
    refine one_ (i := 2) (N := some 30) (m_ 9 31) rfl rfl (one_of HT_.out (by kernel_rfl)) (by decide) (fun K hK => ?_)
    refine goes_ Tryd.func42 (by kernel_rfl) rfl #[.int .i64 t644] (by rfl) rfl rfl ag ?_
    with_reducible refine (carrefourref01_Size.calls _ _ _ A26.out).mono ?_
    rintro e w' ⟨rfl, ⟨nd, rfl⟩⟩
    refine ⟨_, rfl, ?_⟩
    refine hK.out _ _ ⟨ct BK641 0, ct BK641 1, ct BK642 0, ct BK642 1⟩ (fun hHeld => ?_)
    clear hK K
    refine nr_ (some 30) ?_
    refine one_ (i := 5) (N := some 33) (m_ 9 63) rfl rfl (one_of HT_.out (by kernel_rfl)) (by decide) (fun K hK => ?_)
    refine goes_ Tryd.func42 (by kernel_rfl) rfl #[.int .i64 t646] (by rfl) rfl rfl ag ?_
    with_reducible refine (carrefourref01_Size.calls _ _ _ A27.out).mono ?_
    rintro e w' ⟨rfl, ⟨nd, rfl⟩⟩
    refine ⟨_, rfl, ?_⟩
    refine hK.out _ _ ⟨ct BK641 0, ct BK641 1, ct BK642 0, ct BK642 1⟩ (fun hHeld => ?_)
    clear hK K
    refine nr_ (some 33) ?_
    refine one_ (i := 6) (N := some 34) (m_ 9 127) rfl rfl (one_of HT_.out (by kernel_rfl)) (by decide) (fun K hK => ?_)
    refine goes_ Tryd.func48 (by kernel_rfl) rfl #[.int .u64 t652, .int .u64 t653] (by rfl) rfl rfl ag ?_
    with_reducible refine (carrefourref01_Times.calls _ _ _ _ _ A28.out).mono ?_
    rintro e w48 ⟨v655, rfl, ho0, hb⟩
    refine ⟨_, rfl, ?_⟩
    have HO656 := Aside0.mk (Kd.R_lower ho0 (below_size (bf HB)))
    replace BK641 := bb BK641 hb
    replace BK642 := bb BK642 hb
    replace BK643 := bb BK643 hb
    replace HB := bs HB hb
    (try clear hb); (try clear ho0)
    obtain ⟨Ao49, co49, eo49⟩ := Kd.R_slice HO656.out
    (first | subst eo49 | (injection eo49 with f1_ f2_ f3_; have f4_ := f1_.symm; have f5_ := f3_.symm; clear f1_ f2_ f3_; subst f4_; subst f5_))
    refine hK.out _ _ ⟨ct BK641 0, ct BK641 1, ct BK642 0, ct BK642 1⟩ (fun hHeld => ?_)
    clear hK K
    refine nr_ (some 34) ?_
    refine one_ (i := 7) (N := some 35) (m_ 9 255) rfl rfl (one_of HT_.out (by kernel_rfl)) (by decide) (fun K hK => ?_)
    refine goes_ Tryd.func47 (by kernel_rfl) rfl #[.slice Ao49 t654.length co49] (by rfl) rfl rfl ag ?_
    with_reducible refine (carrefourref02_trim.calls _ _ _ _ _ _ ?side1 ?side2 A29.out).mono ?_
    (case side1 => exact rc HO656)
    (case side2 => exact (Kd.R_reads' HO656.out).2.1)
    rintro e w50 ⟨v658, rfl, ho0, hb⟩
    refine ⟨_, rfl, ?_⟩
    have HO659 := Aside0.mk (Kd.R_lower (Kd.R_new' ho0 (rl HO656)) (below_size (bf HB)))
    replace HO656 := re_ HO656 (Kd.R_base ho0) hb
    replace BK641 := bb BK641 hb
    replace BK642 := bb BK642 hb
    replace BK643 := bb BK643 hb
    replace HB := bs HB hb
    (try clear hb); (try clear ho0)
    refine hK.out _ _ ⟨ct BK641 0, ct BK641 1, ct BK642 0, ct BK642 1⟩ (fun hHeld => ?_)
    clear hK K
    refine nr_ (some 35) ?_
    refine pu_ 8 (some 6) (m_ 9 511) rfl rfl (ao HT_) ?_
    refine done_ (done_of HT_.out (by kernel_rfl)) ?_
    have hcz51 := k2 BK641
    have hcz52 := k2 BK642
    try go_wp2_with (first | ((with_reducible refine gc 48 rfl ?_); refine gl_ (some 42) rfl rfl Tryd.func48 ((carrefourref01_Times.calls _ (IntKind.u64.wrap (t645)) (IntKind.u64.wrap (t647)) _ _ A30.out).mono ?_) ag; rintro e w53 ⟨v661, rfl, ho0, hb⟩; refine ⟨_, rfl, ?_⟩; have HO662 := Aside0.mk (Kd.R_lower (Kd.R_new' (Kd.R_new' ho0 (rl HO656)) (rl HO659)) (below_size (bf HB))); replace HO656 := re_ HO656 (Kd.R_base ho0) hb; replace HO659 := re_ HO659 (Kd.R_base ho0) hb; replace BK641 := bb BK641 hb; replace BK642 := bb BK642 hb; replace BK643 := bb BK643 hb; replace HB := bs HB hb; (try clear hb); (try clear ho0); obtain ⟨Ao54, co54, eo54⟩ := Kd.R_slice HO662.out; subst eo54) | ((with_reducible refine gc 47 rfl ?_); refine gl_ (some 43) rfl rfl Tryd.func47 ((carrefourref02_trim.calls _ _ _ _ _ _ ?side1 ?side2 A31.out).mono ?_) ag; (case side1 => exact rc HO662); (case side2 => exact (Kd.R_reads' HO662.out).2.1); rintro e w55 ⟨v664, rfl, ho0, hb⟩; refine ⟨_, rfl, ?_⟩; have HO665 := Aside0.mk (Kd.R_lower (Kd.R_new' (Kd.R_new' (Kd.R_new' ho0 (rl HO656)) (rl HO659)) (rl HO662)) (below_size (bf HB))); replace HO656 := re_ HO656 (Kd.R_base ho0) hb; replace HO659 := re_ HO659 (Kd.R_base ho0) hb; replace HO662 := re_ HO662 (Kd.R_base ho0) hb; replace BK641 := bb BK641 hb; replace BK642 := bb BK642 hb; replace BK643 := bb BK643 hb; replace HB := bs HB hb; (try clear hb); (try clear ho0); have hcz56 := k2 BK641; have hcz57 := k2 BK642; obtain ⟨Ao58, co58, eo58⟩ := Kd.R_slice HO659.out; subst eo58; obtain ⟨Ao59, co59, eo59⟩ := Kd.R_slice HO665.out; subst eo59) | ((with_reducible refine gc 49 rfl ?_); refine gl_ (some 53) rfl rfl Tryd.func49 ((carrefourref02_lowest.calls _ (fun k_ => some k_ = (.slice Ao58 t657.length co58 : Value).ownBlock) _ _ _ (fun k_ => some k_ = (.slice Ao59 t663.length co59 : Value).ownBlock) _ _ _ ((decide (t644 < 0)) != (decide (t646 < 0))) _ _ _ _ ?side1 ?side2 A32.out).mono ?_) ag; (case side1 => exact Kd.R_V (Kd.R_tight rfl (Kd.R_types (Kd.R_types (Kd.R_types (HO659.out) BK641.out (by decide)) BK642.out (by decide)) BK643.out (by decide)))); (case side2 => exact Kd.R_V (Kd.R_tight rfl (Kd.R_types (Kd.R_types (Kd.R_types (HO665.out) BK641.out (by decide)) BK642.out (by decide)) BK643.out (by decide)))); rintro e w60 ⟨rfl, hb⟩; refine ⟨_, rfl, ?_⟩; replace HO656 := rb HO656 hb; replace HO659 := rb HO659 hb; replace HO662 := rb HO662 hb; replace HO665 := rb HO665 hb; replace BK641 := bb BK641 hb; replace BK642 := bb BK642 hb; replace BK643 := bb BK643 hb; replace HB := bs HB hb; (try clear hb); have hcz61 := k2 BK643))
    refine bodyPost_ret (results_ct rfl _ _ gb643 23 #[.int .i64 t666, .int .i64 t667] (0, 0) _ rfl (br_ BK643) Tryd.underlying23 rfl (by kernel_rfl)) rfl ?_
    exact ⟨by first | rfl | (simp [errW_none, errW_some] <;> rfl) | (simp [*, errW_none, errW_some] <;> rfl), bf HB⟩

end Go.Proofs.YtpdmiookdmncpaaDoor.X
