/- The walks of functions of the program, laid by a program of this session over the translation: each '.calls' says that the Go function comes to what its Lean function tells. Conditions: as each theorem's head says. -/
import Derived.Test.YtpdmiookdmncpaaDoorXD
import Derived.Test.YtpdmiookdmncpaaDoorX0
import Derived.Test.YtpdmiookdmncpaaDoorX9
import Derived.Test.YtpdmiookdmncpaaDoorX10
import Derived.Test.YtpdmiookdmncpaaDoorX11
import Derived.Test.YtpdmiookdmncpaaDoorX12
import Derived.Test.YtpdmiookdmncpaaDoorX13
namespace Go.Proofs.YtpdmiookdmncpaaDoor.X
open Go.RowKit Go.Proofs.YtpdmiookdmncpaaDoorW.PrintWords Go.Proofs.YtpdmiookdmncpaaDoorW.PrintLast Go.Proofs.YtpdmiookdmncpaaDoorW.PrintMore
attribute [local go_sem] max2_int min2_int max_two min_two max_three min_three max_four min_four   -- for this text's walks alone
set_option linter.unusedVariables false
set_option linter.unusedSimpArgs false

/-! ### carrefourref02_minus: function 68 -/
set_option maxHeartbeats 8000000 in
set_option maxRecDepth 100000 in
theorem carrefourref02_minus.calls (a0_0 : Int) (a0_1 : Int) (r1 : Int) (r2 : Int) (r3 : Bool) (w : World) (h : carrefourref02_minus.f a0_0 a0_1 = some (r1, r2, r3)) :
    Calls Tryd.prog 68 #[.agg #[.int .i64 a0_0, .int .i64 a0_1]] w fun e w' => e = .returned (.tuple #[.agg #[.int .i64 r1, .int .i64 r2], .bool r3]) ∧ Below w.heap.size w w' := by
  have hu23 := Tryd.underlying23
  have HB := Aside0.mk (Below.refl w.heap.size w)
  have H : (if a0_0 = (-9223372036854775808) then (some (a0_0, a0_1, false)) else (some (wrap64 (-a0_0), a0_1, true))) = some (r1, r2, r3) := h
  clear h
  by_cases c2 : a0_0 = (-9223372036854775808)
  · rw [if_pos c2] at H
    have c2b0 : (a0_0 == (-9223372036854775808)) = true := beq_iff_eq.mpr c2
    have c2b1 : (a0_0 != (-9223372036854775808)) = false := bne_eq_false_iff_eq.mpr c2
    clear c2
    simp only [Option.some.injEq, Prod.mk.injEq] at H
    obtain ⟨rfl, rfl, rfl⟩ := H
    go_enter Tryd.func68, Tryd.ntmps68
    go_wp2_with (first | ((with_reducible refine gd 1 rfl ?_); refine bx_ 1 23 #[.int .i64 a0_0, .int .i64 a0_1] rfl rfl ?_; intro gb491 hg w3 BK491 hb; have GE491 := bz HB hg; replace HB := bs HB hb; clear hb hg) | ((with_reducible refine gd 2 rfl ?_); refine bx_ 2 23 #[.int .i64 0, .int .i64 0] rfl rfl ?_; intro gb492 hg w4 BK492 hb; have GE492 := bz HB hg; have ⟨NB491_492, NB492_491⟩ := nb BK491 hg; replace BK491 := bb BK491 hb; replace HB := bs HB hb; clear hb hg; have hnb5 := nn NB491_492; have hcz6 := k2 BK491; have hcz7 := k2 BK492))
    refine bodyPost_ret (results_ct rfl _ _ gb492 23 #[.int .i64 a0_0, .int .i64 a0_1] (0, 0) _ rfl (br_ BK492) Tryd.underlying23 rfl (by kernel_rfl)) rfl ?_
    exact ⟨by first | rfl | (simp [errW_none, errW_some] <;> rfl) | (simp [*, errW_none, errW_some] <;> rfl), bf HB⟩
  · rw [if_neg c2] at H
    have c2b0 : (a0_0 == (-9223372036854775808)) = false := beq_eq_false_iff_ne.mpr c2
    have c2b1 : (a0_0 != (-9223372036854775808)) = true := bne_iff_ne.mpr c2
    simp only [Option.some.injEq, Prod.mk.injEq] at H
    obtain ⟨rfl, rfl, rfl⟩ := H
    go_enter Tryd.func68, Tryd.ntmps68
    go_wp2_with (first | ((with_reducible refine gd 1 rfl ?_); refine bx_ 1 23 #[.int .i64 a0_0, .int .i64 a0_1] rfl rfl ?_; intro gb491 hg w8 BK491 hb; have GE491 := bz HB hg; replace HB := bs HB hb; clear hb hg) | ((with_reducible refine gd 2 rfl ?_); refine bx_ 2 23 #[.int .i64 0, .int .i64 0] rfl rfl ?_; intro gb492 hg w9 BK492 hb; have GE492 := bz HB hg; have ⟨NB491_492, NB492_491⟩ := nb BK491 hg; replace BK491 := bb BK491 hb; replace HB := bs HB hb; clear hb hg; have hnb10 := nn NB491_492; have hcz11 := k2 BK491; have hcz12 := k2 BK492))
    refine bodyPost_ret (results_ct rfl _ _ gb492 23 #[.int .i64 (wrap64 (-a0_0)), .int .i64 a0_1] (0, 0) _ rfl (br_ BK492) Tryd.underlying23 rfl (by kernel_rfl)) rfl ?_
    exact ⟨by first | rfl | (simp [errW_none, errW_some] <;> rfl) | (simp [*, errW_none, errW_some] <;> rfl), bf HB⟩

/-! ### carrefourref02_twiceAdded: function 69 -/
def carrefourref02_twiceAdded.T1 : Bool × List (List Nat × List Nat) := (true, [([], []), ([0], [0]), ([1], [1]), ([], []), ([3], [3]), ([4], [4]), ([2, 5, 2], [2, 5]), ([6, 6], [6]), ([7, 7, 0, 1, 2, 3, 4, 5, 6, 7], [7])])
def carrefourref02_twiceAdded.B1 : List Nat := [0, 1, 3, 0, 8, 24, 63, 127, 255]
theorem carrefourref02_twiceAdded.tab1 : rtab .any (opsOf Tryd.f69 1) = carrefourref02_twiceAdded.T1 := by kernel_rfl
theorem carrefourref02_twiceAdded.bits1 : waitsOk carrefourref02_twiceAdded.T1.2 carrefourref02_twiceAdded.B1 = true := by kernel_rfl
set_option maxHeartbeats 8000000 in
set_option maxRecDepth 100000 in
theorem carrefourref02_twiceAdded.calls (k : Nat) (a0_0 : Int) (a0_1 : Int) (a1_0 : Int) (a1_1 : Int) (r1 : Int) (r2 : Int) (r3 : Int) (w : World) (h : carrefourref02_twiceAdded.f k a0_0 a0_1 a1_0 a1_1 = some (r1, r2, r3)) :
    Calls Tryd.prog 69 #[.agg #[.int .i64 a0_0, .int .i64 a0_1], .agg #[.int .i64 a1_0, .int .i64 a1_1]] w fun e w' => e = .returned (.tuple #[.agg #[.int .i64 r1, .int .i64 r2], .int .i64 r3]) ∧ Below w.heap.size w w' := by
  have hu23 := Tryd.underlying23
  have HB := Aside0.mk (Below.refl w.heap.size w)
  have H : ((carrefourref01_Size.f a0_0).bind fun t496 => ((carrefourref01_Times.f k t496 (IntKind.u64.wrap (a1_1))).bind fun t497 => ((carrefourref02_trim.f k t497).bind fun t500 => ((carrefourref01_Times.f k (IntKind.u64.wrap (a1_0)) (IntKind.u64.wrap (a0_1))).bind fun t503 => ((carrefourref02_twice.f k t503).bind fun t506 => ((carrefourref02_trim.f k t506).bind fun t509 => ((carrefourref01_Times.f k (IntKind.u64.wrap (a0_1)) (IntKind.u64.wrap (a1_1))).bind fun t512 => ((carrefourref02_trim.f k t512).bind fun t515 => (if a0_0 ≥ 0 then ((carrefourref01_Plus.f k t500 t509).bind fun t518 => ((carrefourref02_trim.f k t518).bind fun t521 => ((carrefourref02_lowest.f k t521 t515 false).bind fun bt524 => (some (bt524.1, bt524.2.1, bt524.2.2))))) else ((carrefourref01_Order.f k t500 t509).bind fun t527 => (if t527 ≥ 0 then ((carrefourref01_Minus.f k t500 t509).bind fun t528 => ((carrefourref02_trim.f k t528).bind fun t531 => ((carrefourref02_lowest.f k t531 t515 true).bind fun bt534 => (some (bt534.1, bt534.2.1, bt534.2.2))))) else ((carrefourref01_Minus.f k t509 t500).bind fun t537 => ((carrefourref02_trim.f k t537).bind fun t540 => ((carrefourref02_lowest.f k t540 t515 false).bind fun bt543 => (some (bt543.1, bt543.2.1, bt543.2.2)))))))))))))))) = some (r1, r2, r3) := h
  clear h
  replace H := bi_ H; obtain ⟨t496, A3, H⟩ := H
  (try dsimp only at H)
  replace H := bi_ H; obtain ⟨t497, A4, H⟩ := H
  (try dsimp only at H)
  replace H := bi_ H; obtain ⟨t500, A5, H⟩ := H
  (try dsimp only at H)
  replace H := bi_ H; obtain ⟨t503, A6, H⟩ := H
  (try dsimp only at H)
  replace H := bi_ H; obtain ⟨t506, A7, H⟩ := H
  (try dsimp only at H)
  replace H := bi_ H; obtain ⟨t509, A8, H⟩ := H
  (try dsimp only at H)
  replace H := bi_ H; obtain ⟨t512, A9, H⟩ := H
  (try dsimp only at H)
  replace H := bi_ H; obtain ⟨t515, A10, H⟩ := H
  (try dsimp only at H)
  by_cases c11 : a0_0 ≥ 0
  · rw [if_pos c11] at H
    have c11b0 : decide (0 ≤ a0_0) = true := decide_eq_true c11
    clear c11
    replace H := bi_ H; obtain ⟨t518, A12, H⟩ := H
    (try dsimp only at H)
    replace H := bi_ H; obtain ⟨t521, A13, H⟩ := H
    (try dsimp only at H)
    replace H := bi_ H; obtain ⟨⟨t524, t525, t526⟩, A14, H⟩ := H
    (try dsimp only at H)
    simp only [Option.some.injEq, Prod.mk.injEq] at H
    obtain ⟨rfl, rfl, rfl⟩ := H
    go_enter Tryd.func69, Tryd.ntmps69
    try go_wp2_with (first | ((with_reducible refine gd 2 rfl ?_); refine bx_ 2 23 #[.int .i64 a0_0, .int .i64 a0_1] rfl rfl ?_; intro gb493 hg w15 BK493 hb; have GE493 := bz HB hg; replace HB := bs HB hb; clear hb hg) | ((with_reducible refine gd 3 rfl ?_); refine bx_ 3 23 #[.int .i64 a1_0, .int .i64 a1_1] rfl rfl ?_; intro gb494 hg w16 BK494 hb; have GE494 := bz HB hg; have ⟨NB493_494, NB494_493⟩ := nb BK493 hg; replace BK493 := bb BK493 hb; replace HB := bs HB hb; clear hb hg) | ((with_reducible refine gd 4 rfl ?_); refine bx_ 4 23 #[.int .i64 0, .int .i64 0] rfl rfl ?_; intro gb495 hg w17 BK495 hb; have GE495 := bz HB hg; have ⟨NB493_495, NB495_493⟩ := nb BK493 hg; have ⟨NB494_495, NB495_494⟩ := nb BK494 hg; replace BK493 := bb BK493 hb; replace BK494 := bb BK494 hb; replace HB := bs HB hb; clear hb hg))
    replace BK493 := Aside0.mk (blk_drew BK493.out)
    replace BK494 := Aside0.mk (blk_drew BK494.out)
    replace BK495 := Aside0.mk (blk_drew BK495.out)
    replace HB := Aside0.mk (below_drew1 HB.out)
    refine start_ (n := 9) (S := fun w' => w'.cell? ⟨gb493, 0, none⟩ = some (.int .i64 a0_0) ∧ w'.cell? ⟨gb493, 1, none⟩ = some (.int .i64 a0_1) ∧ w'.cell? ⟨gb494, 0, none⟩ = some (.int .i64 a1_0) ∧ w'.cell? ⟨gb494, 1, none⟩ = some (.int .i64 a1_1)) (ds := []) (m_ 9 0) (by kernel_rfl) rfl rfl ⟨ct BK493 0, ct BK493 1, ct BK494 0, ct BK494 1⟩ (fun hHeld => ?_); refine with_tabW carrefourref02_twiceAdded.tab1 carrefourref02_twiceAdded.bits1 (fun HT_ HW_ => ?_)
    generalize w17.drew = w18 at BK493 BK494 BK495 HB hHeld ⊢
    refine pu_ 0 (some 9) (m_ 9 1) rfl rfl (ao HT_) ?_
    refine pu_ 3 (some 12) (m_ 9 9) rfl rfl (ao HT_) ?_
    refine tk_ 1 (some 10) (m_ 9 11) rfl rfl (tw HT_ HW_) hHeld ?_
    refine tk_ 4 (some 13) (m_ 9 27) rfl rfl (tw HT_ HW_) hHeld ?_
    refine pu_ 5 (some 14) (m_ 9 59) rfl rfl (ao HT_) ?_
    refine one_ (i := 2) (N := some 11) (m_ 9 63) rfl rfl (one_of HT_.out (by kernel_rfl)) (by decide) (fun K hK => ?_)
    refine goes_ Tryd.func42 (by kernel_rfl) rfl #[.int .i64 a0_0] (by rfl) rfl rfl ag ?_
    with_reducible refine (carrefourref01_Size.calls _ _ _ A3.out).mono ?_
    rintro e w' ⟨rfl, ⟨nd, rfl⟩⟩
    refine ⟨_, rfl, ?_⟩
    refine hK.out _ _ ⟨ct BK493 0, ct BK493 1, ct BK494 0, ct BK494 1⟩ (fun hHeld => ?_)
    clear hK K
    refine nr_ (some 11) ?_
    refine one_ (i := 6) (N := some 15) (m_ 9 127) rfl rfl (one_of HT_.out (by kernel_rfl)) (by decide) (fun K hK => ?_)
    refine goes_ Tryd.func48 (by kernel_rfl) rfl #[.int .u64 t496, .int .u64 (IntKind.u64.wrap (a1_1))] (by rfl) rfl rfl ag ?_
    with_reducible refine (carrefourref01_Times.calls _ _ (IntKind.u64.wrap (a1_1)) _ _ A4.out).mono ?_
    rintro e w19 ⟨v498, rfl, ho0, hb⟩
    refine ⟨_, rfl, ?_⟩
    have HO499 := Aside0.mk (Kd.R_lower ho0 (below_size (bf HB)))
    replace BK493 := bb BK493 hb
    replace BK494 := bb BK494 hb
    replace BK495 := bb BK495 hb
    replace HB := bs HB hb
    (try clear hb); (try clear ho0)
    obtain ⟨Ao20, co20, eo20⟩ := Kd.R_slice HO499.out
    (first | subst eo20 | (injection eo20 with f1_ f2_ f3_; have f4_ := f1_.symm; have f5_ := f3_.symm; clear f1_ f2_ f3_; subst f4_; subst f5_))
    refine hK.out _ _ ⟨ct BK493 0, ct BK493 1, ct BK494 0, ct BK494 1⟩ (fun hHeld => ?_)
    clear hK K
    refine nr_ (some 15) ?_
    refine one_ (i := 7) (N := some 16) (m_ 9 255) rfl rfl (one_of HT_.out (by kernel_rfl)) (by decide) (fun K hK => ?_)
    refine goes_ Tryd.func47 (by kernel_rfl) rfl #[.slice Ao20 t497.length co20] (by rfl) rfl rfl ag ?_
    with_reducible refine (carrefourref02_trim.calls _ _ _ _ _ _ ?side1 ?side2 A5.out).mono ?_
    (case side1 => exact rc HO499)
    (case side2 => exact (Kd.R_reads' HO499.out).2.1)
    rintro e w21 ⟨v501, rfl, ho0, hb⟩
    refine ⟨_, rfl, ?_⟩
    have HO502 := Aside0.mk (Kd.R_lower (Kd.R_new' ho0 (rl HO499)) (below_size (bf HB)))
    replace HO499 := re_ HO499 (Kd.R_base ho0) hb
    replace BK493 := bb BK493 hb
    replace BK494 := bb BK494 hb
    replace BK495 := bb BK495 hb
    replace HB := bs HB hb
    (try clear hb); (try clear ho0)
    refine hK.out _ _ ⟨ct BK493 0, ct BK493 1, ct BK494 0, ct BK494 1⟩ (fun hHeld => ?_)
    clear hK K
    refine nr_ (some 16) ?_
    refine pu_ 8 (some 6) (m_ 9 511) rfl rfl (ao HT_) ?_
    refine done_ (done_of HT_.out (by kernel_rfl)) ?_
    have hnb22 := nn NB494_493
    have hnb23 := nn NB494_495
    have hcz24 := k2 BK494
    have hnb25 := nn NB493_495
    have hcz26 := k2 BK493
    try go_wp2_with (first | ((with_reducible refine gc 48 rfl ?_); refine gl_ (some 23) rfl rfl Tryd.func48 ((carrefourref01_Times.calls _ (IntKind.u64.wrap (a1_0)) (IntKind.u64.wrap (a0_1)) _ _ A6.out).mono ?_) ag; rintro e w27 ⟨v504, rfl, ho0, hb⟩; refine ⟨_, rfl, ?_⟩; have HO505 := Aside0.mk (Kd.R_lower (Kd.R_new' (Kd.R_new' ho0 (rl HO499)) (rl HO502)) (below_size (bf HB))); replace HO499 := re_ HO499 (Kd.R_base ho0) hb; replace HO502 := re_ HO502 (Kd.R_base ho0) hb; replace BK493 := bb BK493 hb; replace BK494 := bb BK494 hb; replace BK495 := bb BK495 hb; replace HB := bs HB hb; (try clear hb); (try clear ho0); obtain ⟨Ao28, co28, eo28⟩ := Kd.R_slice HO505.out; subst eo28) | ((with_reducible refine gc 91 rfl ?_); refine gl_ (some 24) rfl rfl Tryd.func91 ((carrefourref02_twice.calls _ _ _ _ _ _ ?side1 ?side2 A7.out).mono ?_) ag; (case side1 => exact rc HO505); (case side2 => exact (Kd.R_reads' HO505.out).2.1); rintro e w29 ⟨v507, rfl, ho0, hb⟩; refine ⟨_, rfl, ?_⟩; have HO508 := Aside0.mk (Kd.R_lower (Kd.R_new' (Kd.R_new' (Kd.R_new' ho0 (rl HO499)) (rl HO502)) (rl HO505)) (below_size (bf HB))); replace HO499 := re_ HO499 (Kd.R_base ho0) hb; replace HO502 := re_ HO502 (Kd.R_base ho0) hb; replace HO505 := re_ HO505 (Kd.R_base ho0) hb; replace BK493 := bb BK493 hb; replace BK494 := bb BK494 hb; replace BK495 := bb BK495 hb; replace HB := bs HB hb; (try clear hb); (try clear ho0); obtain ⟨Ao30, co30, eo30⟩ := Kd.R_slice HO508.out; subst eo30) | ((with_reducible refine gc 47 rfl ?_); refine gl_ (some 25) rfl rfl Tryd.func47 ((carrefourref02_trim.calls _ _ _ _ _ _ ?side1 ?side2 A8.out).mono ?_) ag; (case side1 => exact rc HO508); (case side2 => exact (Kd.R_reads' HO508.out).2.1); rintro e w31 ⟨v510, rfl, ho0, hb⟩; refine ⟨_, rfl, ?_⟩; have HO511 := Aside0.mk (Kd.R_lower (Kd.R_new' (Kd.R_new' (Kd.R_new' (Kd.R_new' ho0 (rl HO499)) (rl HO502)) (rl HO505)) (rl HO508)) (below_size (bf HB))); replace HO499 := re_ HO499 (Kd.R_base ho0) hb; replace HO502 := re_ HO502 (Kd.R_base ho0) hb; replace HO505 := re_ HO505 (Kd.R_base ho0) hb; replace HO508 := re_ HO508 (Kd.R_base ho0) hb; replace BK493 := bb BK493 hb; replace BK494 := bb BK494 hb; replace BK495 := bb BK495 hb; replace HB := bs HB hb; (try clear hb); (try clear ho0); have hcz32 := k2 BK493; have hcz33 := k2 BK494) | ((with_reducible refine gc 48 rfl ?_); refine gl_ (some 32) rfl rfl Tryd.func48 ((carrefourref01_Times.calls _ (IntKind.u64.wrap (a0_1)) (IntKind.u64.wrap (a1_1)) _ _ A9.out).mono ?_) ag; rintro e w34 ⟨v513, rfl, ho0, hb⟩; refine ⟨_, rfl, ?_⟩; have HO514 := Aside0.mk (Kd.R_lower (Kd.R_new' (Kd.R_new' (Kd.R_new' (Kd.R_new' (Kd.R_new' ho0 (rl HO499)) (rl HO502)) (rl HO505)) (rl HO508)) (rl HO511)) (below_size (bf HB))); replace HO499 := re_ HO499 (Kd.R_base ho0) hb; replace HO502 := re_ HO502 (Kd.R_base ho0) hb; replace HO505 := re_ HO505 (Kd.R_base ho0) hb; replace HO508 := re_ HO508 (Kd.R_base ho0) hb; replace HO511 := re_ HO511 (Kd.R_base ho0) hb; replace BK493 := bb BK493 hb; replace BK494 := bb BK494 hb; replace BK495 := bb BK495 hb; replace HB := bs HB hb; (try clear hb); (try clear ho0); obtain ⟨Ao35, co35, eo35⟩ := Kd.R_slice HO514.out; subst eo35) | ((with_reducible refine gc 47 rfl ?_); refine gl_ (some 33) rfl rfl Tryd.func47 ((carrefourref02_trim.calls _ _ _ _ _ _ ?side1 ?side2 A10.out).mono ?_) ag; (case side1 => exact rc HO514); (case side2 => exact (Kd.R_reads' HO514.out).2.1); rintro e w36 ⟨v516, rfl, ho0, hb⟩; refine ⟨_, rfl, ?_⟩; have HO517 := Aside0.mk (Kd.R_lower (Kd.R_new' (Kd.R_new' (Kd.R_new' (Kd.R_new' (Kd.R_new' (Kd.R_new' ho0 (rl HO499)) (rl HO502)) (rl HO505)) (rl HO508)) (rl HO511)) (rl HO514)) (below_size (bf HB))); replace HO499 := re_ HO499 (Kd.R_base ho0) hb; replace HO502 := re_ HO502 (Kd.R_base ho0) hb; replace HO505 := re_ HO505 (Kd.R_base ho0) hb; replace HO508 := re_ HO508 (Kd.R_base ho0) hb; replace HO511 := re_ HO511 (Kd.R_base ho0) hb; replace HO514 := re_ HO514 (Kd.R_base ho0) hb; replace BK493 := bb BK493 hb; replace BK494 := bb BK494 hb; replace BK495 := bb BK495 hb; replace HB := bs HB hb; (try clear hb); (try clear ho0); have hcz37 := k2 BK493; obtain ⟨Ao38, co38, eo38⟩ := Kd.R_slice HO502.out; subst eo38; obtain ⟨Ao39, co39, eo39⟩ := Kd.R_slice HO511.out; subst eo39) | ((with_reducible refine gc 60 rfl ?_); refine gl_ (some 39) rfl rfl Tryd.func60 ((carrefourref01_Plus.calls _ _ _ _ _ _ _ _ _ ?side1 ?side2 ?side3 ?side4 A12.out).mono ?_) ag; (case side1 => exact rc HO502); (case side2 => exact (Kd.R_reads' HO502.out).2.1); (case side3 => exact rc HO511); (case side4 => exact (Kd.R_reads' HO511.out).2.1); rintro e w40 ⟨v519, rfl, ho0, hb⟩; refine ⟨_, rfl, ?_⟩; have HO520 := Aside0.mk (Kd.R_lower (Kd.R_new' (Kd.R_new' (Kd.R_new' (Kd.R_new' (Kd.R_new' (Kd.R_new' (Kd.R_new' ho0 (rl HO499)) (rl HO502)) (rl HO505)) (rl HO508)) (rl HO511)) (rl HO514)) (rl HO517)) (below_size (bf HB))); replace HO499 := re_ HO499 (Kd.R_base ho0) hb; replace HO502 := re_ HO502 (Kd.R_base ho0) hb; replace HO505 := re_ HO505 (Kd.R_base ho0) hb; replace HO508 := re_ HO508 (Kd.R_base ho0) hb; replace HO511 := re_ HO511 (Kd.R_base ho0) hb; replace HO514 := re_ HO514 (Kd.R_base ho0) hb; replace HO517 := re_ HO517 (Kd.R_base ho0) hb; replace BK493 := bb BK493 hb; replace BK494 := bb BK494 hb; replace BK495 := bb BK495 hb; replace HB := bs HB hb; (try clear hb); (try clear ho0); obtain ⟨Ao41, co41, eo41⟩ := Kd.R_slice HO520.out; subst eo41) | ((with_reducible refine gc 47 rfl ?_); refine gl_ (some 40) rfl rfl Tryd.func47 ((carrefourref02_trim.calls _ _ _ _ _ _ ?side1 ?side2 A13.out).mono ?_) ag; (case side1 => exact rc HO520); (case side2 => exact (Kd.R_reads' HO520.out).2.1); rintro e w42 ⟨v522, rfl, ho0, hb⟩; refine ⟨_, rfl, ?_⟩; have HO523 := Aside0.mk (Kd.R_lower (Kd.R_new' (Kd.R_new' (Kd.R_new' (Kd.R_new' (Kd.R_new' (Kd.R_new' (Kd.R_new' (Kd.R_new' ho0 (rl HO499)) (rl HO502)) (rl HO505)) (rl HO508)) (rl HO511)) (rl HO514)) (rl HO517)) (rl HO520)) (below_size (bf HB))); replace HO499 := re_ HO499 (Kd.R_base ho0) hb; replace HO502 := re_ HO502 (Kd.R_base ho0) hb; replace HO505 := re_ HO505 (Kd.R_base ho0) hb; replace HO508 := re_ HO508 (Kd.R_base ho0) hb; replace HO511 := re_ HO511 (Kd.R_base ho0) hb; replace HO514 := re_ HO514 (Kd.R_base ho0) hb; replace HO517 := re_ HO517 (Kd.R_base ho0) hb; replace HO520 := re_ HO520 (Kd.R_base ho0) hb; replace BK493 := bb BK493 hb; replace BK494 := bb BK494 hb; replace BK495 := bb BK495 hb; replace HB := bs HB hb; (try clear hb); (try clear ho0); obtain ⟨Ao43, co43, eo43⟩ := Kd.R_slice HO523.out; subst eo43; obtain ⟨Ao44, co44, eo44⟩ := Kd.R_slice HO517.out; subst eo44) | ((with_reducible refine gc 49 rfl ?_); refine gl_ (some 42) rfl rfl Tryd.func49 ((carrefourref02_lowest.calls _ (fun k_ => some k_ = (.slice Ao43 t521.length co43 : Value).ownBlock) _ _ _ (fun k_ => some k_ = (.slice Ao44 t515.length co44 : Value).ownBlock) _ _ _ _ _ _ _ _ ?side1 ?side2 A14.out).mono ?_) ag; (case side1 => exact Kd.R_V (Kd.R_tight rfl (Kd.R_types (Kd.R_types (Kd.R_types (HO523.out) BK493.out (by decide)) BK494.out (by decide)) BK495.out (by decide)))); (case side2 => exact Kd.R_V (Kd.R_tight rfl (Kd.R_types (Kd.R_types (Kd.R_types (HO517.out) BK493.out (by decide)) BK494.out (by decide)) BK495.out (by decide)))); rintro e w45 ⟨rfl, hb⟩; refine ⟨_, rfl, ?_⟩; replace HO499 := rb HO499 hb; replace HO502 := rb HO502 hb; replace HO505 := rb HO505 hb; replace HO508 := rb HO508 hb; replace HO511 := rb HO511 hb; replace HO514 := rb HO514 hb; replace HO517 := rb HO517 hb; replace HO520 := rb HO520 hb; replace HO523 := rb HO523 hb; replace BK493 := bb BK493 hb; replace BK494 := bb BK494 hb; replace BK495 := bb BK495 hb; replace HB := bs HB hb; (try clear hb); have hcz46 := k2 BK495))
    refine bodyPost_ret (results_ct rfl _ _ gb495 23 #[.int .i64 t524, .int .i64 t525] (0, 0) _ rfl (br_ BK495) Tryd.underlying23 rfl (by kernel_rfl)) rfl ?_
    exact ⟨by first | rfl | (simp [errW_none, errW_some] <;> rfl) | (simp [*, errW_none, errW_some] <;> rfl), bf HB⟩
  · rw [if_neg c11] at H
    have c11b0 : decide (0 ≤ a0_0) = false := decide_eq_false c11
    clear c11
    replace H := bi_ H; obtain ⟨t527, A47, H⟩ := H
    (try dsimp only at H)
    by_cases c48 : t527 ≥ 0
    · rw [if_pos c48] at H
      have c48b0 : decide (0 ≤ t527) = true := decide_eq_true c48
      clear c48
      replace H := bi_ H; obtain ⟨t528, A49, H⟩ := H
      (try dsimp only at H)
      replace H := bi_ H; obtain ⟨t531, A50, H⟩ := H
      (try dsimp only at H)
      replace H := bi_ H; obtain ⟨⟨t534, t535, t536⟩, A51, H⟩ := H
      (try dsimp only at H)
      simp only [Option.some.injEq, Prod.mk.injEq] at H
      obtain ⟨rfl, rfl, rfl⟩ := H
      go_enter Tryd.func69, Tryd.ntmps69
      try go_wp2_with (first | ((with_reducible refine gd 2 rfl ?_); refine bx_ 2 23 #[.int .i64 a0_0, .int .i64 a0_1] rfl rfl ?_; intro gb493 hg w52 BK493 hb; have GE493 := bz HB hg; replace HB := bs HB hb; clear hb hg) | ((with_reducible refine gd 3 rfl ?_); refine bx_ 3 23 #[.int .i64 a1_0, .int .i64 a1_1] rfl rfl ?_; intro gb494 hg w53 BK494 hb; have GE494 := bz HB hg; have ⟨NB493_494, NB494_493⟩ := nb BK493 hg; replace BK493 := bb BK493 hb; replace HB := bs HB hb; clear hb hg) | ((with_reducible refine gd 4 rfl ?_); refine bx_ 4 23 #[.int .i64 0, .int .i64 0] rfl rfl ?_; intro gb495 hg w54 BK495 hb; have GE495 := bz HB hg; have ⟨NB493_495, NB495_493⟩ := nb BK493 hg; have ⟨NB494_495, NB495_494⟩ := nb BK494 hg; replace BK493 := bb BK493 hb; replace BK494 := bb BK494 hb; replace HB := bs HB hb; clear hb hg))
      replace BK493 := Aside0.mk (blk_drew BK493.out)
      replace BK494 := Aside0.mk (blk_drew BK494.out)
      replace BK495 := Aside0.mk (blk_drew BK495.out)
      replace HB := Aside0.mk (below_drew1 HB.out)
      refine start_ (n := 9) (S := fun w' => w'.cell? ⟨gb493, 0, none⟩ = some (.int .i64 a0_0) ∧ w'.cell? ⟨gb493, 1, none⟩ = some (.int .i64 a0_1) ∧ w'.cell? ⟨gb494, 0, none⟩ = some (.int .i64 a1_0) ∧ w'.cell? ⟨gb494, 1, none⟩ = some (.int .i64 a1_1)) (ds := []) (m_ 9 0) (by kernel_rfl) rfl rfl ⟨ct BK493 0, ct BK493 1, ct BK494 0, ct BK494 1⟩ (fun hHeld => ?_); refine with_tabW carrefourref02_twiceAdded.tab1 carrefourref02_twiceAdded.bits1 (fun HT_ HW_ => ?_)
      generalize w54.drew = w55 at BK493 BK494 BK495 HB hHeld ⊢
      refine pu_ 0 (some 9) (m_ 9 1) rfl rfl (ao HT_) ?_
      refine pu_ 3 (some 12) (m_ 9 9) rfl rfl (ao HT_) ?_
      refine tk_ 1 (some 10) (m_ 9 11) rfl rfl (tw HT_ HW_) hHeld ?_
      refine tk_ 4 (some 13) (m_ 9 27) rfl rfl (tw HT_ HW_) hHeld ?_
      refine pu_ 5 (some 14) (m_ 9 59) rfl rfl (ao HT_) ?_
      refine one_ (i := 2) (N := some 11) (m_ 9 63) rfl rfl (one_of HT_.out (by kernel_rfl)) (by decide) (fun K hK => ?_)
      refine goes_ Tryd.func42 (by kernel_rfl) rfl #[.int .i64 a0_0] (by rfl) rfl rfl ag ?_
      with_reducible refine (carrefourref01_Size.calls _ _ _ A3.out).mono ?_
      rintro e w' ⟨rfl, ⟨nd, rfl⟩⟩
      refine ⟨_, rfl, ?_⟩
      refine hK.out _ _ ⟨ct BK493 0, ct BK493 1, ct BK494 0, ct BK494 1⟩ (fun hHeld => ?_)
      clear hK K
      refine nr_ (some 11) ?_
      refine one_ (i := 6) (N := some 15) (m_ 9 127) rfl rfl (one_of HT_.out (by kernel_rfl)) (by decide) (fun K hK => ?_)
      refine goes_ Tryd.func48 (by kernel_rfl) rfl #[.int .u64 t496, .int .u64 (IntKind.u64.wrap (a1_1))] (by rfl) rfl rfl ag ?_
      with_reducible refine (carrefourref01_Times.calls _ _ (IntKind.u64.wrap (a1_1)) _ _ A4.out).mono ?_
      rintro e w56 ⟨v498, rfl, ho0, hb⟩
      refine ⟨_, rfl, ?_⟩
      have HO499 := Aside0.mk (Kd.R_lower ho0 (below_size (bf HB)))
      replace BK493 := bb BK493 hb
      replace BK494 := bb BK494 hb
      replace BK495 := bb BK495 hb
      replace HB := bs HB hb
      (try clear hb); (try clear ho0)
      obtain ⟨Ao57, co57, eo57⟩ := Kd.R_slice HO499.out
      (first | subst eo57 | (injection eo57 with f1_ f2_ f3_; have f4_ := f1_.symm; have f5_ := f3_.symm; clear f1_ f2_ f3_; subst f4_; subst f5_))
      refine hK.out _ _ ⟨ct BK493 0, ct BK493 1, ct BK494 0, ct BK494 1⟩ (fun hHeld => ?_)
      clear hK K
      refine nr_ (some 15) ?_
      refine one_ (i := 7) (N := some 16) (m_ 9 255) rfl rfl (one_of HT_.out (by kernel_rfl)) (by decide) (fun K hK => ?_)
      refine goes_ Tryd.func47 (by kernel_rfl) rfl #[.slice Ao57 t497.length co57] (by rfl) rfl rfl ag ?_
      with_reducible refine (carrefourref02_trim.calls _ _ _ _ _ _ ?side1 ?side2 A5.out).mono ?_
      (case side1 => exact rc HO499)
      (case side2 => exact (Kd.R_reads' HO499.out).2.1)
      rintro e w58 ⟨v501, rfl, ho0, hb⟩
      refine ⟨_, rfl, ?_⟩
      have HO502 := Aside0.mk (Kd.R_lower (Kd.R_new' ho0 (rl HO499)) (below_size (bf HB)))
      replace HO499 := re_ HO499 (Kd.R_base ho0) hb
      replace BK493 := bb BK493 hb
      replace BK494 := bb BK494 hb
      replace BK495 := bb BK495 hb
      replace HB := bs HB hb
      (try clear hb); (try clear ho0)
      refine hK.out _ _ ⟨ct BK493 0, ct BK493 1, ct BK494 0, ct BK494 1⟩ (fun hHeld => ?_)
      clear hK K
      refine nr_ (some 16) ?_
      refine pu_ 8 (some 6) (m_ 9 511) rfl rfl (ao HT_) ?_
      refine done_ (done_of HT_.out (by kernel_rfl)) ?_
      have hnb59 := nn NB494_493
      have hnb60 := nn NB494_495
      have hcz61 := k2 BK494
      have hnb62 := nn NB493_495
      have hcz63 := k2 BK493
      try go_wp2_with (first | ((with_reducible refine gc 48 rfl ?_); refine gl_ (some 23) rfl rfl Tryd.func48 ((carrefourref01_Times.calls _ (IntKind.u64.wrap (a1_0)) (IntKind.u64.wrap (a0_1)) _ _ A6.out).mono ?_) ag; rintro e w64 ⟨v504, rfl, ho0, hb⟩; refine ⟨_, rfl, ?_⟩; have HO505 := Aside0.mk (Kd.R_lower (Kd.R_new' (Kd.R_new' ho0 (rl HO499)) (rl HO502)) (below_size (bf HB))); replace HO499 := re_ HO499 (Kd.R_base ho0) hb; replace HO502 := re_ HO502 (Kd.R_base ho0) hb; replace BK493 := bb BK493 hb; replace BK494 := bb BK494 hb; replace BK495 := bb BK495 hb; replace HB := bs HB hb; (try clear hb); (try clear ho0); obtain ⟨Ao65, co65, eo65⟩ := Kd.R_slice HO505.out; subst eo65) | ((with_reducible refine gc 91 rfl ?_); refine gl_ (some 24) rfl rfl Tryd.func91 ((carrefourref02_twice.calls _ _ _ _ _ _ ?side1 ?side2 A7.out).mono ?_) ag; (case side1 => exact rc HO505); (case side2 => exact (Kd.R_reads' HO505.out).2.1); rintro e w66 ⟨v507, rfl, ho0, hb⟩; refine ⟨_, rfl, ?_⟩; have HO508 := Aside0.mk (Kd.R_lower (Kd.R_new' (Kd.R_new' (Kd.R_new' ho0 (rl HO499)) (rl HO502)) (rl HO505)) (below_size (bf HB))); replace HO499 := re_ HO499 (Kd.R_base ho0) hb; replace HO502 := re_ HO502 (Kd.R_base ho0) hb; replace HO505 := re_ HO505 (Kd.R_base ho0) hb; replace BK493 := bb BK493 hb; replace BK494 := bb BK494 hb; replace BK495 := bb BK495 hb; replace HB := bs HB hb; (try clear hb); (try clear ho0); obtain ⟨Ao67, co67, eo67⟩ := Kd.R_slice HO508.out; subst eo67) | ((with_reducible refine gc 47 rfl ?_); refine gl_ (some 25) rfl rfl Tryd.func47 ((carrefourref02_trim.calls _ _ _ _ _ _ ?side1 ?side2 A8.out).mono ?_) ag; (case side1 => exact rc HO508); (case side2 => exact (Kd.R_reads' HO508.out).2.1); rintro e w68 ⟨v510, rfl, ho0, hb⟩; refine ⟨_, rfl, ?_⟩; have HO511 := Aside0.mk (Kd.R_lower (Kd.R_new' (Kd.R_new' (Kd.R_new' (Kd.R_new' ho0 (rl HO499)) (rl HO502)) (rl HO505)) (rl HO508)) (below_size (bf HB))); replace HO499 := re_ HO499 (Kd.R_base ho0) hb; replace HO502 := re_ HO502 (Kd.R_base ho0) hb; replace HO505 := re_ HO505 (Kd.R_base ho0) hb; replace HO508 := re_ HO508 (Kd.R_base ho0) hb; replace BK493 := bb BK493 hb; replace BK494 := bb BK494 hb; replace BK495 := bb BK495 hb; replace HB := bs HB hb; (try clear hb); (try clear ho0); have hcz69 := k2 BK493; have hcz70 := k2 BK494) | ((with_reducible refine gc 48 rfl ?_); refine gl_ (some 32) rfl rfl Tryd.func48 ((carrefourref01_Times.calls _ (IntKind.u64.wrap (a0_1)) (IntKind.u64.wrap (a1_1)) _ _ A9.out).mono ?_) ag; rintro e w71 ⟨v513, rfl, ho0, hb⟩; refine ⟨_, rfl, ?_⟩; have HO514 := Aside0.mk (Kd.R_lower (Kd.R_new' (Kd.R_new' (Kd.R_new' (Kd.R_new' (Kd.R_new' ho0 (rl HO499)) (rl HO502)) (rl HO505)) (rl HO508)) (rl HO511)) (below_size (bf HB))); replace HO499 := re_ HO499 (Kd.R_base ho0) hb; replace HO502 := re_ HO502 (Kd.R_base ho0) hb; replace HO505 := re_ HO505 (Kd.R_base ho0) hb; replace HO508 := re_ HO508 (Kd.R_base ho0) hb; replace HO511 := re_ HO511 (Kd.R_base ho0) hb; replace BK493 := bb BK493 hb; replace BK494 := bb BK494 hb; replace BK495 := bb BK495 hb; replace HB := bs HB hb; (try clear hb); (try clear ho0); obtain ⟨Ao72, co72, eo72⟩ := Kd.R_slice HO514.out; subst eo72) | ((with_reducible refine gc 47 rfl ?_); refine gl_ (some 33) rfl rfl Tryd.func47 ((carrefourref02_trim.calls _ _ _ _ _ _ ?side1 ?side2 A10.out).mono ?_) ag; (case side1 => exact rc HO514); (case side2 => exact (Kd.R_reads' HO514.out).2.1); rintro e w73 ⟨v516, rfl, ho0, hb⟩; refine ⟨_, rfl, ?_⟩; have HO517 := Aside0.mk (Kd.R_lower (Kd.R_new' (Kd.R_new' (Kd.R_new' (Kd.R_new' (Kd.R_new' (Kd.R_new' ho0 (rl HO499)) (rl HO502)) (rl HO505)) (rl HO508)) (rl HO511)) (rl HO514)) (below_size (bf HB))); replace HO499 := re_ HO499 (Kd.R_base ho0) hb; replace HO502 := re_ HO502 (Kd.R_base ho0) hb; replace HO505 := re_ HO505 (Kd.R_base ho0) hb; replace HO508 := re_ HO508 (Kd.R_base ho0) hb; replace HO511 := re_ HO511 (Kd.R_base ho0) hb; replace HO514 := re_ HO514 (Kd.R_base ho0) hb; replace BK493 := bb BK493 hb; replace BK494 := bb BK494 hb; replace BK495 := bb BK495 hb; replace HB := bs HB hb; (try clear hb); (try clear ho0); have hcz74 := k2 BK493; obtain ⟨Ao75, co75, eo75⟩ := Kd.R_slice HO502.out; subst eo75; obtain ⟨Ao76, co76, eo76⟩ := Kd.R_slice HO511.out; subst eo76) | ((with_reducible refine gc 61 rfl ?_); refine gl_ (some 47) rfl rfl Tryd.func61 ((carrefourref01_Order.calls _ _ _ _ _ _ _ _ _ ?side1 ?side2 ?side3 ?side4 A47.out).mono ?_) ag; (case side1 => exact rc HO502); (case side2 => exact (Kd.R_reads' HO502.out).2.1); (case side3 => exact rc HO511); (case side4 => exact (Kd.R_reads' HO511.out).2.1); rintro e w77 ⟨rfl, hb⟩; refine ⟨_, rfl, ?_⟩; replace HO499 := rb HO499 hb; replace HO502 := rb HO502 hb; replace HO505 := rb HO505 hb; replace HO508 := rb HO508 hb; replace HO511 := rb HO511 hb; replace HO514 := rb HO514 hb; replace HO517 := rb HO517 hb; replace BK493 := bb BK493 hb; replace BK494 := bb BK494 hb; replace BK495 := bb BK495 hb; replace HB := bs HB hb; (try clear hb)) | ((with_reducible refine gc 62 rfl ?_); refine gl_ (some 51) rfl rfl Tryd.func62 ((carrefourref01_Minus.calls _ _ _ _ _ _ _ _ _ ?side1 ?side2 ?side3 ?side4 A49.out).mono ?_) ag; (case side1 => exact rc HO502); (case side2 => exact (Kd.R_reads' HO502.out).2.1); (case side3 => exact rc HO511); (case side4 => exact (Kd.R_reads' HO511.out).2.1); rintro e w78 ⟨v529, rfl, ho0, hb⟩; refine ⟨_, rfl, ?_⟩; have HO530 := Aside0.mk (Kd.R_lower (Kd.R_new' (Kd.R_new' (Kd.R_new' (Kd.R_new' (Kd.R_new' (Kd.R_new' (Kd.R_new' ho0 (rl HO499)) (rl HO502)) (rl HO505)) (rl HO508)) (rl HO511)) (rl HO514)) (rl HO517)) (below_size (bf HB))); replace HO499 := re_ HO499 (Kd.R_base ho0) hb; replace HO502 := re_ HO502 (Kd.R_base ho0) hb; replace HO505 := re_ HO505 (Kd.R_base ho0) hb; replace HO508 := re_ HO508 (Kd.R_base ho0) hb; replace HO511 := re_ HO511 (Kd.R_base ho0) hb; replace HO514 := re_ HO514 (Kd.R_base ho0) hb; replace HO517 := re_ HO517 (Kd.R_base ho0) hb; replace BK493 := bb BK493 hb; replace BK494 := bb BK494 hb; replace BK495 := bb BK495 hb; replace HB := bs HB hb; (try clear hb); (try clear ho0); obtain ⟨Ao79, co79, eo79⟩ := Kd.R_slice HO530.out; subst eo79) | ((with_reducible refine gc 47 rfl ?_); refine gl_ (some 52) rfl rfl Tryd.func47 ((carrefourref02_trim.calls _ _ _ _ _ _ ?side1 ?side2 A50.out).mono ?_) ag; (case side1 => exact rc HO530); (case side2 => exact (Kd.R_reads' HO530.out).2.1); rintro e w80 ⟨v532, rfl, ho0, hb⟩; refine ⟨_, rfl, ?_⟩; have HO533 := Aside0.mk (Kd.R_lower (Kd.R_new' (Kd.R_new' (Kd.R_new' (Kd.R_new' (Kd.R_new' (Kd.R_new' (Kd.R_new' (Kd.R_new' ho0 (rl HO499)) (rl HO502)) (rl HO505)) (rl HO508)) (rl HO511)) (rl HO514)) (rl HO517)) (rl HO530)) (below_size (bf HB))); replace HO499 := re_ HO499 (Kd.R_base ho0) hb; replace HO502 := re_ HO502 (Kd.R_base ho0) hb; replace HO505 := re_ HO505 (Kd.R_base ho0) hb; replace HO508 := re_ HO508 (Kd.R_base ho0) hb; replace HO511 := re_ HO511 (Kd.R_base ho0) hb; replace HO514 := re_ HO514 (Kd.R_base ho0) hb; replace HO517 := re_ HO517 (Kd.R_base ho0) hb; replace HO530 := re_ HO530 (Kd.R_base ho0) hb; replace BK493 := bb BK493 hb; replace BK494 := bb BK494 hb; replace BK495 := bb BK495 hb; replace HB := bs HB hb; (try clear hb); (try clear ho0); obtain ⟨Ao81, co81, eo81⟩ := Kd.R_slice HO533.out; subst eo81; obtain ⟨Ao82, co82, eo82⟩ := Kd.R_slice HO517.out; subst eo82) | ((with_reducible refine gc 49 rfl ?_); refine gl_ (some 54) rfl rfl Tryd.func49 ((carrefourref02_lowest.calls _ (fun k_ => some k_ = (.slice Ao81 t531.length co81 : Value).ownBlock) _ _ _ (fun k_ => some k_ = (.slice Ao82 t515.length co82 : Value).ownBlock) _ _ _ _ _ _ _ _ ?side1 ?side2 A51.out).mono ?_) ag; (case side1 => exact Kd.R_V (Kd.R_tight rfl (Kd.R_types (Kd.R_types (Kd.R_types (HO533.out) BK493.out (by decide)) BK494.out (by decide)) BK495.out (by decide)))); (case side2 => exact Kd.R_V (Kd.R_tight rfl (Kd.R_types (Kd.R_types (Kd.R_types (HO517.out) BK493.out (by decide)) BK494.out (by decide)) BK495.out (by decide)))); rintro e w83 ⟨rfl, hb⟩; refine ⟨_, rfl, ?_⟩; replace HO499 := rb HO499 hb; replace HO502 := rb HO502 hb; replace HO505 := rb HO505 hb; replace HO508 := rb HO508 hb; replace HO511 := rb HO511 hb; replace HO514 := rb HO514 hb; replace HO517 := rb HO517 hb; replace HO530 := rb HO530 hb; replace HO533 := rb HO533 hb; replace BK493 := bb BK493 hb; replace BK494 := bb BK494 hb; replace BK495 := bb BK495 hb; replace HB := bs HB hb; (try clear hb); have hcz84 := k2 BK495))
      refine bodyPost_ret (results_ct rfl _ _ gb495 23 #[.int .i64 t534, .int .i64 t535] (0, 0) _ rfl (br_ BK495) Tryd.underlying23 rfl (by kernel_rfl)) rfl ?_
      exact ⟨by first | rfl | (simp [errW_none, errW_some] <;> rfl) | (simp [*, errW_none, errW_some] <;> rfl), bf HB⟩
    · rw [if_neg c48] at H
      have c48b0 : decide (0 ≤ t527) = false := decide_eq_false c48
      clear c48
      replace H := bi_ H; obtain ⟨t537, A85, H⟩ := H
      (try dsimp only at H)
      replace H := bi_ H; obtain ⟨t540, A86, H⟩ := H
      (try dsimp only at H)
      replace H := bi_ H; obtain ⟨⟨t543, t544, t545⟩, A87, H⟩ := H
      (try dsimp only at H)
      simp only [Option.some.injEq, Prod.mk.injEq] at H
      obtain ⟨rfl, rfl, rfl⟩ := H
      go_enter Tryd.func69, Tryd.ntmps69
      try go_wp2_with (first | ((with_reducible refine gd 2 rfl ?_); refine bx_ 2 23 #[.int .i64 a0_0, .int .i64 a0_1] rfl rfl ?_; intro gb493 hg w88 BK493 hb; have GE493 := bz HB hg; replace HB := bs HB hb; clear hb hg) | ((with_reducible refine gd 3 rfl ?_); refine bx_ 3 23 #[.int .i64 a1_0, .int .i64 a1_1] rfl rfl ?_; intro gb494 hg w89 BK494 hb; have GE494 := bz HB hg; have ⟨NB493_494, NB494_493⟩ := nb BK493 hg; replace BK493 := bb BK493 hb; replace HB := bs HB hb; clear hb hg) | ((with_reducible refine gd 4 rfl ?_); refine bx_ 4 23 #[.int .i64 0, .int .i64 0] rfl rfl ?_; intro gb495 hg w90 BK495 hb; have GE495 := bz HB hg; have ⟨NB493_495, NB495_493⟩ := nb BK493 hg; have ⟨NB494_495, NB495_494⟩ := nb BK494 hg; replace BK493 := bb BK493 hb; replace BK494 := bb BK494 hb; replace HB := bs HB hb; clear hb hg))
      replace BK493 := Aside0.mk (blk_drew BK493.out)
      replace BK494 := Aside0.mk (blk_drew BK494.out)
      replace BK495 := Aside0.mk (blk_drew BK495.out)
      replace HB := Aside0.mk (below_drew1 HB.out)
      refine start_ (n := 9) (S := fun w' => w'.cell? ⟨gb493, 0, none⟩ = some (.int .i64 a0_0) ∧ w'.cell? ⟨gb493, 1, none⟩ = some (.int .i64 a0_1) ∧ w'.cell? ⟨gb494, 0, none⟩ = some (.int .i64 a1_0) ∧ w'.cell? ⟨gb494, 1, none⟩ = some (.int .i64 a1_1)) (ds := []) (m_ 9 0) (by kernel_rfl) rfl rfl ⟨ct BK493 0, ct BK493 1, ct BK494 0, ct BK494 1⟩ (fun hHeld => ?_); refine with_tabW carrefourref02_twiceAdded.tab1 carrefourref02_twiceAdded.bits1 (fun HT_ HW_ => ?_)
      generalize w90.drew = w91 at BK493 BK494 BK495 HB hHeld ⊢
      refine pu_ 0 (some 9) (m_ 9 1) rfl rfl (ao HT_) ?_
      refine pu_ 3 (some 12) (m_ 9 9) rfl rfl (ao HT_) ?_
      refine tk_ 1 (some 10) (m_ 9 11) rfl rfl (tw HT_ HW_) hHeld ?_
      refine tk_ 4 (some 13) (m_ 9 27) rfl rfl (tw HT_ HW_) hHeld ?_
      refine pu_ 5 (some 14) (m_ 9 59) rfl rfl (ao HT_) ?_
      refine one_ (i := 2) (N := some 11) (m_ 9 63) rfl rfl (one_of HT_.out (by kernel_rfl)) (by decide) (fun K hK => ?_)
      refine goes_ Tryd.func42 (by kernel_rfl) rfl #[.int .i64 a0_0] (by rfl) rfl rfl ag ?_
      with_reducible refine (carrefourref01_Size.calls _ _ _ A3.out).mono ?_
      rintro e w' ⟨rfl, ⟨nd, rfl⟩⟩
      refine ⟨_, rfl, ?_⟩
      refine hK.out _ _ ⟨ct BK493 0, ct BK493 1, ct BK494 0, ct BK494 1⟩ (fun hHeld => ?_)
      clear hK K
      refine nr_ (some 11) ?_
      refine one_ (i := 6) (N := some 15) (m_ 9 127) rfl rfl (one_of HT_.out (by kernel_rfl)) (by decide) (fun K hK => ?_)
      refine goes_ Tryd.func48 (by kernel_rfl) rfl #[.int .u64 t496, .int .u64 (IntKind.u64.wrap (a1_1))] (by rfl) rfl rfl ag ?_
      with_reducible refine (carrefourref01_Times.calls _ _ (IntKind.u64.wrap (a1_1)) _ _ A4.out).mono ?_
      rintro e w92 ⟨v498, rfl, ho0, hb⟩
      refine ⟨_, rfl, ?_⟩
      have HO499 := Aside0.mk (Kd.R_lower ho0 (below_size (bf HB)))
      replace BK493 := bb BK493 hb
      replace BK494 := bb BK494 hb
      replace BK495 := bb BK495 hb
      replace HB := bs HB hb
      (try clear hb); (try clear ho0)
      obtain ⟨Ao93, co93, eo93⟩ := Kd.R_slice HO499.out
      (first | subst eo93 | (injection eo93 with f1_ f2_ f3_; have f4_ := f1_.symm; have f5_ := f3_.symm; clear f1_ f2_ f3_; subst f4_; subst f5_))
      refine hK.out _ _ ⟨ct BK493 0, ct BK493 1, ct BK494 0, ct BK494 1⟩ (fun hHeld => ?_)
      clear hK K
      refine nr_ (some 15) ?_
      refine one_ (i := 7) (N := some 16) (m_ 9 255) rfl rfl (one_of HT_.out (by kernel_rfl)) (by decide) (fun K hK => ?_)
      refine goes_ Tryd.func47 (by kernel_rfl) rfl #[.slice Ao93 t497.length co93] (by rfl) rfl rfl ag ?_
      with_reducible refine (carrefourref02_trim.calls _ _ _ _ _ _ ?side1 ?side2 A5.out).mono ?_
      (case side1 => exact rc HO499)
      (case side2 => exact (Kd.R_reads' HO499.out).2.1)
      rintro e w94 ⟨v501, rfl, ho0, hb⟩
      refine ⟨_, rfl, ?_⟩
      have HO502 := Aside0.mk (Kd.R_lower (Kd.R_new' ho0 (rl HO499)) (below_size (bf HB)))
      replace HO499 := re_ HO499 (Kd.R_base ho0) hb
      replace BK493 := bb BK493 hb
      replace BK494 := bb BK494 hb
      replace BK495 := bb BK495 hb
      replace HB := bs HB hb
      (try clear hb); (try clear ho0)
      refine hK.out _ _ ⟨ct BK493 0, ct BK493 1, ct BK494 0, ct BK494 1⟩ (fun hHeld => ?_)
      clear hK K
      refine nr_ (some 16) ?_
      refine pu_ 8 (some 6) (m_ 9 511) rfl rfl (ao HT_) ?_
      refine done_ (done_of HT_.out (by kernel_rfl)) ?_
      have hnb95 := nn NB494_493
      have hnb96 := nn NB494_495
      have hcz97 := k2 BK494
      have hnb98 := nn NB493_495
      have hcz99 := k2 BK493
      try go_wp2_with (first | ((with_reducible refine gc 48 rfl ?_); refine gl_ (some 23) rfl rfl Tryd.func48 ((carrefourref01_Times.calls _ (IntKind.u64.wrap (a1_0)) (IntKind.u64.wrap (a0_1)) _ _ A6.out).mono ?_) ag; rintro e w100 ⟨v504, rfl, ho0, hb⟩; refine ⟨_, rfl, ?_⟩; have HO505 := Aside0.mk (Kd.R_lower (Kd.R_new' (Kd.R_new' ho0 (rl HO499)) (rl HO502)) (below_size (bf HB))); replace HO499 := re_ HO499 (Kd.R_base ho0) hb; replace HO502 := re_ HO502 (Kd.R_base ho0) hb; replace BK493 := bb BK493 hb; replace BK494 := bb BK494 hb; replace BK495 := bb BK495 hb; replace HB := bs HB hb; (try clear hb); (try clear ho0); obtain ⟨Ao101, co101, eo101⟩ := Kd.R_slice HO505.out; subst eo101) | ((with_reducible refine gc 91 rfl ?_); refine gl_ (some 24) rfl rfl Tryd.func91 ((carrefourref02_twice.calls _ _ _ _ _ _ ?side1 ?side2 A7.out).mono ?_) ag; (case side1 => exact rc HO505); (case side2 => exact (Kd.R_reads' HO505.out).2.1); rintro e w102 ⟨v507, rfl, ho0, hb⟩; refine ⟨_, rfl, ?_⟩; have HO508 := Aside0.mk (Kd.R_lower (Kd.R_new' (Kd.R_new' (Kd.R_new' ho0 (rl HO499)) (rl HO502)) (rl HO505)) (below_size (bf HB))); replace HO499 := re_ HO499 (Kd.R_base ho0) hb; replace HO502 := re_ HO502 (Kd.R_base ho0) hb; replace HO505 := re_ HO505 (Kd.R_base ho0) hb; replace BK493 := bb BK493 hb; replace BK494 := bb BK494 hb; replace BK495 := bb BK495 hb; replace HB := bs HB hb; (try clear hb); (try clear ho0); obtain ⟨Ao103, co103, eo103⟩ := Kd.R_slice HO508.out; subst eo103) | ((with_reducible refine gc 47 rfl ?_); refine gl_ (some 25) rfl rfl Tryd.func47 ((carrefourref02_trim.calls _ _ _ _ _ _ ?side1 ?side2 A8.out).mono ?_) ag; (case side1 => exact rc HO508); (case side2 => exact (Kd.R_reads' HO508.out).2.1); rintro e w104 ⟨v510, rfl, ho0, hb⟩; refine ⟨_, rfl, ?_⟩; have HO511 := Aside0.mk (Kd.R_lower (Kd.R_new' (Kd.R_new' (Kd.R_new' (Kd.R_new' ho0 (rl HO499)) (rl HO502)) (rl HO505)) (rl HO508)) (below_size (bf HB))); replace HO499 := re_ HO499 (Kd.R_base ho0) hb; replace HO502 := re_ HO502 (Kd.R_base ho0) hb; replace HO505 := re_ HO505 (Kd.R_base ho0) hb; replace HO508 := re_ HO508 (Kd.R_base ho0) hb; replace BK493 := bb BK493 hb; replace BK494 := bb BK494 hb; replace BK495 := bb BK495 hb; replace HB := bs HB hb; (try clear hb); (try clear ho0); have hcz105 := k2 BK493; have hcz106 := k2 BK494) | ((with_reducible refine gc 48 rfl ?_); refine gl_ (some 32) rfl rfl Tryd.func48 ((carrefourref01_Times.calls _ (IntKind.u64.wrap (a0_1)) (IntKind.u64.wrap (a1_1)) _ _ A9.out).mono ?_) ag; rintro e w107 ⟨v513, rfl, ho0, hb⟩; refine ⟨_, rfl, ?_⟩; have HO514 := Aside0.mk (Kd.R_lower (Kd.R_new' (Kd.R_new' (Kd.R_new' (Kd.R_new' (Kd.R_new' ho0 (rl HO499)) (rl HO502)) (rl HO505)) (rl HO508)) (rl HO511)) (below_size (bf HB))); replace HO499 := re_ HO499 (Kd.R_base ho0) hb; replace HO502 := re_ HO502 (Kd.R_base ho0) hb; replace HO505 := re_ HO505 (Kd.R_base ho0) hb; replace HO508 := re_ HO508 (Kd.R_base ho0) hb; replace HO511 := re_ HO511 (Kd.R_base ho0) hb; replace BK493 := bb BK493 hb; replace BK494 := bb BK494 hb; replace BK495 := bb BK495 hb; replace HB := bs HB hb; (try clear hb); (try clear ho0); obtain ⟨Ao108, co108, eo108⟩ := Kd.R_slice HO514.out; subst eo108) | ((with_reducible refine gc 47 rfl ?_); refine gl_ (some 33) rfl rfl Tryd.func47 ((carrefourref02_trim.calls _ _ _ _ _ _ ?side1 ?side2 A10.out).mono ?_) ag; (case side1 => exact rc HO514); (case side2 => exact (Kd.R_reads' HO514.out).2.1); rintro e w109 ⟨v516, rfl, ho0, hb⟩; refine ⟨_, rfl, ?_⟩; have HO517 := Aside0.mk (Kd.R_lower (Kd.R_new' (Kd.R_new' (Kd.R_new' (Kd.R_new' (Kd.R_new' (Kd.R_new' ho0 (rl HO499)) (rl HO502)) (rl HO505)) (rl HO508)) (rl HO511)) (rl HO514)) (below_size (bf HB))); replace HO499 := re_ HO499 (Kd.R_base ho0) hb; replace HO502 := re_ HO502 (Kd.R_base ho0) hb; replace HO505 := re_ HO505 (Kd.R_base ho0) hb; replace HO508 := re_ HO508 (Kd.R_base ho0) hb; replace HO511 := re_ HO511 (Kd.R_base ho0) hb; replace HO514 := re_ HO514 (Kd.R_base ho0) hb; replace BK493 := bb BK493 hb; replace BK494 := bb BK494 hb; replace BK495 := bb BK495 hb; replace HB := bs HB hb; (try clear hb); (try clear ho0); have hcz110 := k2 BK493; obtain ⟨Ao111, co111, eo111⟩ := Kd.R_slice HO502.out; subst eo111; obtain ⟨Ao112, co112, eo112⟩ := Kd.R_slice HO511.out; subst eo112) | ((with_reducible refine gc 61 rfl ?_); refine gl_ (some 47) rfl rfl Tryd.func61 ((carrefourref01_Order.calls _ _ _ _ _ _ _ _ _ ?side1 ?side2 ?side3 ?side4 A47.out).mono ?_) ag; (case side1 => exact rc HO502); (case side2 => exact (Kd.R_reads' HO502.out).2.1); (case side3 => exact rc HO511); (case side4 => exact (Kd.R_reads' HO511.out).2.1); rintro e w113 ⟨rfl, hb⟩; refine ⟨_, rfl, ?_⟩; replace HO499 := rb HO499 hb; replace HO502 := rb HO502 hb; replace HO505 := rb HO505 hb; replace HO508 := rb HO508 hb; replace HO511 := rb HO511 hb; replace HO514 := rb HO514 hb; replace HO517 := rb HO517 hb; replace BK493 := bb BK493 hb; replace BK494 := bb BK494 hb; replace BK495 := bb BK495 hb; replace HB := bs HB hb; (try clear hb)) | ((with_reducible refine gc 62 rfl ?_); refine gl_ (some 59) rfl rfl Tryd.func62 ((carrefourref01_Minus.calls _ _ _ _ _ _ _ _ _ ?side1 ?side2 ?side3 ?side4 A85.out).mono ?_) ag; (case side1 => exact rc HO511); (case side2 => exact (Kd.R_reads' HO511.out).2.1); (case side3 => exact rc HO502); (case side4 => exact (Kd.R_reads' HO502.out).2.1); rintro e w114 ⟨v538, rfl, ho0, hb⟩; refine ⟨_, rfl, ?_⟩; have HO539 := Aside0.mk (Kd.R_lower (Kd.R_new' (Kd.R_new' (Kd.R_new' (Kd.R_new' (Kd.R_new' (Kd.R_new' (Kd.R_new' ho0 (rl HO499)) (rl HO502)) (rl HO505)) (rl HO508)) (rl HO511)) (rl HO514)) (rl HO517)) (below_size (bf HB))); replace HO499 := re_ HO499 (Kd.R_base ho0) hb; replace HO502 := re_ HO502 (Kd.R_base ho0) hb; replace HO505 := re_ HO505 (Kd.R_base ho0) hb; replace HO508 := re_ HO508 (Kd.R_base ho0) hb; replace HO511 := re_ HO511 (Kd.R_base ho0) hb; replace HO514 := re_ HO514 (Kd.R_base ho0) hb; replace HO517 := re_ HO517 (Kd.R_base ho0) hb; replace BK493 := bb BK493 hb; replace BK494 := bb BK494 hb; replace BK495 := bb BK495 hb; replace HB := bs HB hb; (try clear hb); (try clear ho0); obtain ⟨Ao115, co115, eo115⟩ := Kd.R_slice HO539.out; subst eo115) | ((with_reducible refine gc 47 rfl ?_); refine gl_ (some 60) rfl rfl Tryd.func47 ((carrefourref02_trim.calls _ _ _ _ _ _ ?side1 ?side2 A86.out).mono ?_) ag; (case side1 => exact rc HO539); (case side2 => exact (Kd.R_reads' HO539.out).2.1); rintro e w116 ⟨v541, rfl, ho0, hb⟩; refine ⟨_, rfl, ?_⟩; have HO542 := Aside0.mk (Kd.R_lower (Kd.R_new' (Kd.R_new' (Kd.R_new' (Kd.R_new' (Kd.R_new' (Kd.R_new' (Kd.R_new' (Kd.R_new' ho0 (rl HO499)) (rl HO502)) (rl HO505)) (rl HO508)) (rl HO511)) (rl HO514)) (rl HO517)) (rl HO539)) (below_size (bf HB))); replace HO499 := re_ HO499 (Kd.R_base ho0) hb; replace HO502 := re_ HO502 (Kd.R_base ho0) hb; replace HO505 := re_ HO505 (Kd.R_base ho0) hb; replace HO508 := re_ HO508 (Kd.R_base ho0) hb; replace HO511 := re_ HO511 (Kd.R_base ho0) hb; replace HO514 := re_ HO514 (Kd.R_base ho0) hb; replace HO517 := re_ HO517 (Kd.R_base ho0) hb; replace HO539 := re_ HO539 (Kd.R_base ho0) hb; replace BK493 := bb BK493 hb; replace BK494 := bb BK494 hb; replace BK495 := bb BK495 hb; replace HB := bs HB hb; (try clear hb); (try clear ho0); obtain ⟨Ao117, co117, eo117⟩ := Kd.R_slice HO542.out; subst eo117; obtain ⟨Ao118, co118, eo118⟩ := Kd.R_slice HO517.out; subst eo118) | ((with_reducible refine gc 49 rfl ?_); refine gl_ (some 62) rfl rfl Tryd.func49 ((carrefourref02_lowest.calls _ (fun k_ => some k_ = (.slice Ao117 t540.length co117 : Value).ownBlock) _ _ _ (fun k_ => some k_ = (.slice Ao118 t515.length co118 : Value).ownBlock) _ _ _ _ _ _ _ _ ?side1 ?side2 A87.out).mono ?_) ag; (case side1 => exact Kd.R_V (Kd.R_tight rfl (Kd.R_types (Kd.R_types (Kd.R_types (HO542.out) BK493.out (by decide)) BK494.out (by decide)) BK495.out (by decide)))); (case side2 => exact Kd.R_V (Kd.R_tight rfl (Kd.R_types (Kd.R_types (Kd.R_types (HO517.out) BK493.out (by decide)) BK494.out (by decide)) BK495.out (by decide)))); rintro e w119 ⟨rfl, hb⟩; refine ⟨_, rfl, ?_⟩; replace HO499 := rb HO499 hb; replace HO502 := rb HO502 hb; replace HO505 := rb HO505 hb; replace HO508 := rb HO508 hb; replace HO511 := rb HO511 hb; replace HO514 := rb HO514 hb; replace HO517 := rb HO517 hb; replace HO539 := rb HO539 hb; replace HO542 := rb HO542 hb; replace BK493 := bb BK493 hb; replace BK494 := bb BK494 hb; replace BK495 := bb BK495 hb; replace HB := bs HB hb; (try clear hb); have hcz120 := k2 BK495))
      refine bodyPost_ret (results_ct rfl _ _ gb495 23 #[.int .i64 t543, .int .i64 t544] (0, 0) _ rfl (br_ BK495) Tryd.underlying23 rfl (by kernel_rfl)) rfl ?_
      exact ⟨by first | rfl | (simp [errW_none, errW_some] <;> rfl) | (simp [*, errW_none, errW_some] <;> rfl), bf HB⟩

end Go.Proofs.YtpdmiookdmncpaaDoor.X
