/- Walks: each '.calls' says that the Go function comes to what its Lean function tells. Conditions: as each theorem's head says. -/
import Derived.Test.YtjgnaccamakpdaaDoorXD
import Derived.Test.YtjgnaccamakpdaaDoorX0
import Derived.Test.YtjgnaccamakpdaaDoorX19
import Derived.Test.YtjgnaccamakpdaaDoorX29
import Derived.Test.YtjgnaccamakpdaaDoorX30
namespace Go.Proofs.YtjgnaccamakpdaaDoor.X
open Go.RowKit Go.Proofs.YtjgnaccamakpdaaDoorW.PrintWords Go.Proofs.YtjgnaccamakpdaaDoorW.PrintLast Go.Proofs.YtjgnaccamakpdaaDoorW.PrintMore
attribute [local go_sem] max2_int min2_int max_two min_two max_three min_three max_four min_four   -- for this text's walks alone
set_option linter.unusedVariables false
set_option maxHeartbeats 8000000
set_option maxRecDepth 100000
set_option linter.unusedSimpArgs false

/-! ### carrefourlaw02_FracOrder: function 7 -/
def carrefourlaw02_FracOrder.T2 : Bool × List (List Nat × List Nat) := (true, [([], []), ([], []), ([], []), ([1, 2], [1, 2]), ([0, 3], [0, 3]), ([4, 3], [4]), ([5], [5]), ([5], [5]), ([5], [5]), ([7, 8, 5, 5], [5, 7, 8]), ([9, 5], [5, 9]), ([6, 10, 5], [5, 6, 10]), ([5, 11], [5, 11]), ([12, 9], [12]), ([13], [13]), ([14, 13, 13], [13, 14]), ([13], [13]), ([16, 15, 13], [13, 16]), ([15, 17, 13], [13, 15, 17]), ([13, 18], [13, 18]), ([19, 17], [19]), ([20], [20]), ([21, 20, 20], [20, 21]), ([20], [20]), ([23, 22, 20], [20, 23]), ([22, 24, 20], [20, 22, 24]), ([20, 25], [20, 25]), ([26, 24], [26]), ([27], [27]), ([28, 27, 27], [27, 28]), ([27], [27]), ([30, 29, 27], [27, 30]), ([29, 31, 27], [27, 29, 31]), ([27, 32], [27, 32]), ([33, 31], [33]), ([34, 34], [34]), ([34, 35], [34, 35]), ([36, 35, 0, 1, 2, 3, 4, 5, 6, 7, 8, 9, 10, 11, 12, 13, 14, 15, 16, 17, 18, 19, 20, 21, 22, 23, 24, 25, 26, 27, 28, 29, 30, 31, 32, 33, 34, 35, 36], [36])])
def carrefourlaw02_FracOrder.B2 : List Nat := [0, 0, 0, 6, 15, 31, 63, 63, 63, 447, 959, 2047, 4095, 8191, 16383, 32767, 16383, 131071, 262143, 524287, 1048575, 2097151, 4194303, 2097151, 16777215, 33554431, 67108863, 134217727, 268435455, 536870911, 268435455, 2147483647, 4294967295, 8589934591, 17179869183, 34359738367, 68719476735, 137438953471]
theorem carrefourlaw02_FracOrder.tab2 : rtab .any (opsOf Tryd.f7 2) = carrefourlaw02_FracOrder.T2 := by kernel_rfl
theorem carrefourlaw02_FracOrder.bits2 : waitsOk carrefourlaw02_FracOrder.T2.2 carrefourlaw02_FracOrder.B2 = true := by kernel_rfl
theorem carrefourlaw02_FracOrder.calls (k : Nat) (a0_0 : Int) (a0_1 : Int) (a1_0 : Int) (a1_1 : Int) (r : Bool) (w : World) (h : carrefourlaw02_FracOrder.f k a0_0 a0_1 a1_0 a1_1 = some r) (hT : TabOK w) :
    Calls Tryd.prog 7 #[.agg #[.int .i64 a0_0, .int .i64 a0_1], .agg #[.int .i64 a1_0, .int .i64 a1_1]] w fun e w' => e = .returned (.bool r) ∧ Below w.heap.size w w' := by
  have GT := Aside0.mk hT
  clear hT
  have hu23 := Tryd.underlying23
  have HB := Aside0.mk (Below.refl w.heap.size w)
  have H : ((frac_Cmp.f k a0_0 a0_1 a1_0 a1_1).bind fun t960 => ((carrefourref02_Cmp.f k a0_0 a0_1 a1_0 a1_1).bind fun t961 => (if t960 = t961 then ((frac_Cmp.f k a1_0 a1_1 a0_0 a0_1).bind fun t962 => (if t960 = (wrap64 (-t962)) then ((frac_Floor.f k a0_0 a0_1).bind fun t963 => ((carrefourref02_Floor.f k a0_0 a0_1).bind fun t964 => (if t963 = t964 then ((frac_Ceil.f k a0_0 a0_1).bind fun t965 => ((carrefourref02_Ceil.f k a0_0 a0_1).bind fun t966 => (if t965 = t966 then ((frac_Print.f k a0_0 a0_1).bind fun t967 => ((carrefourref02_Print.f k a0_0 a0_1).bind fun t968 => (if t967.toList = t968.toList then ((carrefourlaw02_awake.f k).bind fun t969 => (some t969)) else (some false)))) else (some false)))) else (some false)))) else (some false))) else (some false)))) = some r := h
  clear h
  replace H := bi_ H; obtain ⟨t960, A3, H⟩ := H
  (try dsimp only at H)
  replace H := bi_ H; obtain ⟨t961, A4, H⟩ := H
  (try dsimp only at H)
  by_cases c5 : t960 = t961
  · rw [if_pos c5] at H
    have c5b0 : (t960 == t961) = true := beq_iff_eq.mpr c5
    have c5b1 : (t960 != t961) = false := bne_eq_false_iff_eq.mpr c5
    clear c5
    replace H := bi_ H; obtain ⟨t962, A6, H⟩ := H
    (try dsimp only at H)
    by_cases c7 : t960 = (wrap64 (-t962))
    · rw [if_pos c7] at H
      have c7b0 : (t960 == (wrap64 (-t962))) = true := beq_iff_eq.mpr c7
      have c7b1 : (t960 != (wrap64 (-t962))) = false := bne_eq_false_iff_eq.mpr c7
      clear c7
      replace H := bi_ H; obtain ⟨t963, A8, H⟩ := H
      (try dsimp only at H)
      replace H := bi_ H; obtain ⟨t964, A9, H⟩ := H
      (try dsimp only at H)
      by_cases c10 : t963 = t964
      · rw [if_pos c10] at H
        have c10b0 : (t963 == t964) = true := beq_iff_eq.mpr c10
        have c10b1 : (t963 != t964) = false := bne_eq_false_iff_eq.mpr c10
        clear c10
        replace H := bi_ H; obtain ⟨t965, A11, H⟩ := H
        (try dsimp only at H)
        replace H := bi_ H; obtain ⟨t966, A12, H⟩ := H
        (try dsimp only at H)
        by_cases c13 : t965 = t966
        · rw [if_pos c13] at H
          have c13b0 : (t965 == t966) = true := beq_iff_eq.mpr c13
          have c13b1 : (t965 != t966) = false := bne_eq_false_iff_eq.mpr c13
          clear c13
          replace H := bi_ H; obtain ⟨t967, A14, H⟩ := H
          (try dsimp only at H)
          replace H := bi_ H; obtain ⟨t968, A15, H⟩ := H
          (try dsimp only at H)
          by_cases c16 : t967.toList = t968.toList
          · rw [if_pos c16] at H
            have c16b0 : (t967.toList == t968.toList) = true := beq_iff_eq.mpr c16
            have c16b1 : (t967.toList != t968.toList) = false := bne_eq_false_iff_eq.mpr c16
            clear c16
            replace H := bi_ H; obtain ⟨t969, A17, H⟩ := H
            (try dsimp only at H)
            obtain rfl := Option.some.inj H
            go_enter Tryd.func7, Tryd.ntmps7
            try go_wp2_with (first | ((with_reducible refine gd 2 rfl ?_); refine bx_ 2 23 #[.int .i64 a0_0, .int .i64 a0_1] rfl rfl ?_; intro gb958 hg w18 BK958 hb; have GE958 := bz HB hg; replace HB := bs HB hb; clear hb hg) | ((with_reducible refine gd 3 rfl ?_); refine bx_ 3 23 #[.int .i64 a1_0, .int .i64 a1_1] rfl rfl ?_; intro gb959 hg w19 BK959 hb; have GE959 := bz HB hg; have ⟨NB958_959, NB959_958⟩ := nb BK958 hg; replace BK958 := bb BK958 hb; replace HB := bs HB hb; clear hb hg; have hnb20 := nn NB958_959; have hcz21 := k2 BK958; have hcz22 := k2 BK959) | ((with_reducible refine gc 25 rfl ?_); refine gm_ (some 8) rfl rfl Tryd.func25 (frac_Cmp.calls _ _ _ _ _ _ _ A3.out (tt GT)) ag ?_; intro w23 hb; replace BK958 := bb BK958 hb; replace BK959 := bb BK959 hb; replace HB := bs HB hb; (try clear hb)))
            replace BK958 := Aside0.mk (blk_drew BK958.out)
            replace BK959 := Aside0.mk (blk_drew BK959.out)
            replace HB := Aside0.mk (below_drew1 HB.out)
            refine start_ (n := 38) (S := fun w' => c_ w' gb958 0 (.int .i64 a0_0) ∧ c_ w' gb958 1 (.int .i64 a0_1) ∧ c_ w' gb959 0 (.int .i64 a1_0) ∧ c_ w' gb959 1 (.int .i64 a1_1)) (ds := []) (m_ 38 0) (by kernel_rfl) rfl rfl ⟨ct BK958 0, ct BK958 1, ct BK959 0, ct BK959 1⟩ (fun hHeld => ?_); refine with_tabW carrefourlaw02_FracOrder.tab2 carrefourlaw02_FracOrder.bits2 (fun HT_ HW_ => ?_)
            generalize w23.drew = w24 at BK958 BK959 HB hHeld ⊢
            refine pu_ 0 (some 9) (m_ 38 1) rfl rfl (ao HT_) ?_
            refine tk_ 1 (some 10) (m_ 38 3) rfl rfl (tw HT_ HW_) hHeld ?_
            refine tk_ 2 (some 11) (m_ 38 7) rfl rfl (tw HT_ HW_) hHeld ?_
            refine o1_ 3 (some 12) (m_ 38 15) rfl rfl (oo HT_) (fun K hK => ?_)
            refine gs_ rfl Tryd.func26 (carrefourref02_Cmp.calls _ _ _ _ _ _ _ A4.out) ag ?_
            intro w25 hb
            replace BK958 := bb BK958 hb
            replace BK959 := bb BK959 hb
            replace HB := bs HB hb
            (try clear hb)
            refine hK.out _ _ ⟨ct BK958 0, ct BK958 1, ct BK959 0, ct BK959 1⟩ (fun hHeld => ?_)
            clear hK K
            refine nr_ (some 12) ?_
            refine pu_ 4 (some 13) (m_ 38 31) rfl rfl (ao HT_) ?_
            refine pu_ 5 (some 14) (m_ 38 63) rfl rfl (ao HT_) ?_
            refine pu_ 6 (some 15) (m_ 38 127) rfl rfl (ao HT_) ?_
            refine tk_ 7 (some 16) (m_ 38 255) rfl rfl (tw HT_ HW_) hHeld ?_
            refine tk_ 8 (some 17) (m_ 38 511) rfl rfl (tw HT_ HW_) hHeld ?_
            refine o1_ 9 (some 18) (m_ 38 1023) rfl rfl (oo HT_) (fun K hK => ?_)
            refine gs_ rfl Tryd.func25 (frac_Cmp.calls _ _ _ _ _ _ _ A6.out (tt GT)) ag ?_
            intro w26 hb
            replace BK958 := bb BK958 hb
            replace BK959 := bb BK959 hb
            replace HB := bs HB hb
            (try clear hb)
            refine hK.out _ _ ⟨ct BK958 0, ct BK958 1, ct BK959 0, ct BK959 1⟩ (fun hHeld => ?_)
            clear hK K
            refine nr_ (some 18) ?_
            refine pu_ 10 (some 19) (m_ 38 2047) rfl rfl (ao HT_) ?_
            refine pu_ 11 (some 20) (m_ 38 4095) rfl rfl (ao HT_) ?_
            refine pu_ 12 (some 21) (m_ 38 8191) rfl rfl (ao HT_) ?_
            refine pu_ 13 (some 22) (m_ 38 16383) rfl rfl (ao HT_) ?_
            refine tk_ 14 (some 23) (m_ 38 32767) rfl rfl (tw HT_ HW_) hHeld ?_
            refine tk_ 16 (some 25) (m_ 38 98303) rfl rfl (tw HT_ HW_) hHeld ?_
            refine o1_ 15 (some 24) (m_ 38 131071) rfl rfl (oo HT_) (fun K hK => ?_)
            refine gs_ rfl Tryd.func27 (frac_Floor.calls _ _ _ _ _ A8.out (tt GT)) ag ?_
            intro w27 hb
            replace BK958 := bb BK958 hb
            replace BK959 := bb BK959 hb
            replace HB := bs HB hb
            (try clear hb)
            refine hK.out _ _ ⟨ct BK958 0, ct BK958 1, ct BK959 0, ct BK959 1⟩ (fun hHeld => ?_)
            clear hK K
            refine nr_ (some 24) ?_
            refine o1_ 17 (some 26) (m_ 38 262143) rfl rfl (oo HT_) (fun K hK => ?_)
            refine gs_ rfl Tryd.func28 (carrefourref02_Floor.calls _ _ _ _ _ A9.out) ag ?_
            intro w28 hb
            replace BK958 := bb BK958 hb
            replace BK959 := bb BK959 hb
            replace HB := bs HB hb
            (try clear hb)
            refine hK.out _ _ ⟨ct BK958 0, ct BK958 1, ct BK959 0, ct BK959 1⟩ (fun hHeld => ?_)
            clear hK K
            refine nr_ (some 26) ?_
            refine pu_ 18 (some 27) (m_ 38 524287) rfl rfl (ao HT_) ?_
            refine pu_ 19 (some 28) (m_ 38 1048575) rfl rfl (ao HT_) ?_
            refine pu_ 20 (some 29) (m_ 38 2097151) rfl rfl (ao HT_) ?_
            refine tk_ 21 (some 30) (m_ 38 4194303) rfl rfl (tw HT_ HW_) hHeld ?_
            refine tk_ 23 (some 32) (m_ 38 12582911) rfl rfl (tw HT_ HW_) hHeld ?_
            refine o1_ 22 (some 31) (m_ 38 16777215) rfl rfl (oo HT_) (fun K hK => ?_)
            refine gs_ rfl Tryd.func29 (frac_Ceil.calls _ _ _ _ _ A11.out (tt GT)) ag ?_
            intro w29 hb
            replace BK958 := bb BK958 hb
            replace BK959 := bb BK959 hb
            replace HB := bs HB hb
            (try clear hb)
            refine hK.out _ _ ⟨ct BK958 0, ct BK958 1, ct BK959 0, ct BK959 1⟩ (fun hHeld => ?_)
            clear hK K
            refine nr_ (some 31) ?_
            refine o1_ 24 (some 33) (m_ 38 33554431) rfl rfl (oo HT_) (fun K hK => ?_)
            refine gs_ rfl Tryd.func30 (carrefourref02_Ceil.calls _ _ _ _ _ A12.out) ag ?_
            intro w30 hb
            replace BK958 := bb BK958 hb
            replace BK959 := bb BK959 hb
            replace HB := bs HB hb
            (try clear hb)
            refine hK.out _ _ ⟨ct BK958 0, ct BK958 1, ct BK959 0, ct BK959 1⟩ (fun hHeld => ?_)
            clear hK K
            refine nr_ (some 33) ?_
            refine pu_ 25 (some 34) (m_ 38 67108863) rfl rfl (ao HT_) ?_
            refine pu_ 26 (some 35) (m_ 38 134217727) rfl rfl (ao HT_) ?_
            refine pu_ 27 (some 36) (m_ 38 268435455) rfl rfl (ao HT_) ?_
            refine tk_ 28 (some 37) (m_ 38 536870911) rfl rfl (tw HT_ HW_) hHeld ?_
            refine tk_ 30 (some 39) (m_ 38 1610612735) rfl rfl (tw HT_ HW_) hHeld ?_
            refine o1_ 29 (some 38) (m_ 38 2147483647) rfl rfl (oo HT_) (fun K hK => ?_)
            refine gs_ rfl Tryd.func31 (frac_Print.calls _ _ _ _ _ A14.out (tt GT)) ag ?_
            intro w31 hb
            replace BK958 := bb BK958 hb
            replace BK959 := bb BK959 hb
            replace HB := bs HB hb
            (try clear hb)
            refine hK.out _ _ ⟨ct BK958 0, ct BK958 1, ct BK959 0, ct BK959 1⟩ (fun hHeld => ?_)
            clear hK K
            refine nr_ (some 38) ?_
            refine o1_ 31 (some 40) (m_ 38 4294967295) rfl rfl (oo HT_) (fun K hK => ?_)
            refine gs_ rfl Tryd.func32 (carrefourref02_Print.calls _ _ _ _ _ A15.out) ag ?_
            intro w32 hb
            replace BK958 := bb BK958 hb
            replace BK959 := bb BK959 hb
            replace HB := bs HB hb
            (try clear hb)
            refine hK.out _ _ ⟨ct BK958 0, ct BK958 1, ct BK959 0, ct BK959 1⟩ (fun hHeld => ?_)
            clear hK K
            refine nr_ (some 40) ?_
            refine pu_ 32 (some 41) (m_ 38 8589934591) rfl rfl (ao HT_) ?_
            refine pu_ 33 (some 42) (m_ 38 17179869183) rfl rfl (ao HT_) ?_
            refine pu_ 34 (some 43) (m_ 38 34359738367) rfl rfl (ao HT_) ?_
            refine o1_ 35 (some 44) (m_ 38 68719476735) rfl rfl (oo HT_) (fun K hK => ?_)
            refine gs_ rfl Tryd.func15 (carrefourlaw02_awake.calls _ _ _ A17.out (tt GT)) ag ?_
            intro w33 hb
            replace BK958 := bb BK958 hb
            replace BK959 := bb BK959 hb
            replace HB := bs HB hb
            (try clear hb)
            refine hK.out _ _ ⟨ct BK958 0, ct BK958 1, ct BK959 0, ct BK959 1⟩ (fun hHeld => ?_)
            clear hK K
            refine nr_ (some 44) ?_
            refine pu_ 36 (some 45) (m_ 38 137438953471) rfl rfl (ao HT_) ?_
            refine pu_ 37 (some 4) (m_ 38 274877906943) rfl rfl (ao HT_) ?_
            refine done_ (done_of HT_.out (by kernel_rfl)) ?_
            try go_wp2
            go_ret
            exact ⟨ae, bf HB⟩
          · rw [if_neg c16] at H
            have c16b0 : (t967.toList == t968.toList) = false := beq_eq_false_iff_ne.mpr c16
            have c16b1 : (t967.toList != t968.toList) = true := bne_iff_ne.mpr c16
            obtain rfl := Option.some.inj H
            go_enter Tryd.func7, Tryd.ntmps7
            try go_wp2_with (first | ((with_reducible refine gd 2 rfl ?_); refine bx_ 2 23 #[.int .i64 a0_0, .int .i64 a0_1] rfl rfl ?_; intro gb958 hg w34 BK958 hb; have GE958 := bz HB hg; replace HB := bs HB hb; clear hb hg) | ((with_reducible refine gd 3 rfl ?_); refine bx_ 3 23 #[.int .i64 a1_0, .int .i64 a1_1] rfl rfl ?_; intro gb959 hg w35 BK959 hb; have GE959 := bz HB hg; have ⟨NB958_959, NB959_958⟩ := nb BK958 hg; replace BK958 := bb BK958 hb; replace HB := bs HB hb; clear hb hg; have hnb36 := nn NB958_959; have hcz37 := k2 BK958; have hcz38 := k2 BK959) | ((with_reducible refine gc 25 rfl ?_); refine gm_ (some 8) rfl rfl Tryd.func25 (frac_Cmp.calls _ _ _ _ _ _ _ A3.out (tt GT)) ag ?_; intro w39 hb; replace BK958 := bb BK958 hb; replace BK959 := bb BK959 hb; replace HB := bs HB hb; (try clear hb)))
            replace BK958 := Aside0.mk (blk_drew BK958.out)
            replace BK959 := Aside0.mk (blk_drew BK959.out)
            replace HB := Aside0.mk (below_drew1 HB.out)
            refine start_ (n := 38) (S := fun w' => c_ w' gb958 0 (.int .i64 a0_0) ∧ c_ w' gb958 1 (.int .i64 a0_1) ∧ c_ w' gb959 0 (.int .i64 a1_0) ∧ c_ w' gb959 1 (.int .i64 a1_1)) (ds := []) (m_ 38 0) (by kernel_rfl) rfl rfl ⟨ct BK958 0, ct BK958 1, ct BK959 0, ct BK959 1⟩ (fun hHeld => ?_); refine with_tabW carrefourlaw02_FracOrder.tab2 carrefourlaw02_FracOrder.bits2 (fun HT_ HW_ => ?_)
            generalize w39.drew = w40 at BK958 BK959 HB hHeld ⊢
            refine pu_ 0 (some 9) (m_ 38 1) rfl rfl (ao HT_) ?_
            refine tk_ 1 (some 10) (m_ 38 3) rfl rfl (tw HT_ HW_) hHeld ?_
            refine tk_ 2 (some 11) (m_ 38 7) rfl rfl (tw HT_ HW_) hHeld ?_
            refine o1_ 3 (some 12) (m_ 38 15) rfl rfl (oo HT_) (fun K hK => ?_)
            refine gs_ rfl Tryd.func26 (carrefourref02_Cmp.calls _ _ _ _ _ _ _ A4.out) ag ?_
            intro w41 hb
            replace BK958 := bb BK958 hb
            replace BK959 := bb BK959 hb
            replace HB := bs HB hb
            (try clear hb)
            refine hK.out _ _ ⟨ct BK958 0, ct BK958 1, ct BK959 0, ct BK959 1⟩ (fun hHeld => ?_)
            clear hK K
            refine nr_ (some 12) ?_
            refine pu_ 4 (some 13) (m_ 38 31) rfl rfl (ao HT_) ?_
            refine pu_ 5 (some 14) (m_ 38 63) rfl rfl (ao HT_) ?_
            refine pu_ 6 (some 15) (m_ 38 127) rfl rfl (ao HT_) ?_
            refine tk_ 7 (some 16) (m_ 38 255) rfl rfl (tw HT_ HW_) hHeld ?_
            refine tk_ 8 (some 17) (m_ 38 511) rfl rfl (tw HT_ HW_) hHeld ?_
            refine o1_ 9 (some 18) (m_ 38 1023) rfl rfl (oo HT_) (fun K hK => ?_)
            refine gs_ rfl Tryd.func25 (frac_Cmp.calls _ _ _ _ _ _ _ A6.out (tt GT)) ag ?_
            intro w42 hb
            replace BK958 := bb BK958 hb
            replace BK959 := bb BK959 hb
            replace HB := bs HB hb
            (try clear hb)
            refine hK.out _ _ ⟨ct BK958 0, ct BK958 1, ct BK959 0, ct BK959 1⟩ (fun hHeld => ?_)
            clear hK K
            refine nr_ (some 18) ?_
            refine pu_ 10 (some 19) (m_ 38 2047) rfl rfl (ao HT_) ?_
            refine pu_ 11 (some 20) (m_ 38 4095) rfl rfl (ao HT_) ?_
            refine pu_ 12 (some 21) (m_ 38 8191) rfl rfl (ao HT_) ?_
            refine pu_ 13 (some 22) (m_ 38 16383) rfl rfl (ao HT_) ?_
            refine tk_ 14 (some 23) (m_ 38 32767) rfl rfl (tw HT_ HW_) hHeld ?_
            refine tk_ 16 (some 25) (m_ 38 98303) rfl rfl (tw HT_ HW_) hHeld ?_
            refine o1_ 15 (some 24) (m_ 38 131071) rfl rfl (oo HT_) (fun K hK => ?_)
            refine gs_ rfl Tryd.func27 (frac_Floor.calls _ _ _ _ _ A8.out (tt GT)) ag ?_
            intro w43 hb
            replace BK958 := bb BK958 hb
            replace BK959 := bb BK959 hb
            replace HB := bs HB hb
            (try clear hb)
            refine hK.out _ _ ⟨ct BK958 0, ct BK958 1, ct BK959 0, ct BK959 1⟩ (fun hHeld => ?_)
            clear hK K
            refine nr_ (some 24) ?_
            refine o1_ 17 (some 26) (m_ 38 262143) rfl rfl (oo HT_) (fun K hK => ?_)
            refine gs_ rfl Tryd.func28 (carrefourref02_Floor.calls _ _ _ _ _ A9.out) ag ?_
            intro w44 hb
            replace BK958 := bb BK958 hb
            replace BK959 := bb BK959 hb
            replace HB := bs HB hb
            (try clear hb)
            refine hK.out _ _ ⟨ct BK958 0, ct BK958 1, ct BK959 0, ct BK959 1⟩ (fun hHeld => ?_)
            clear hK K
            refine nr_ (some 26) ?_
            refine pu_ 18 (some 27) (m_ 38 524287) rfl rfl (ao HT_) ?_
            refine pu_ 19 (some 28) (m_ 38 1048575) rfl rfl (ao HT_) ?_
            refine pu_ 20 (some 29) (m_ 38 2097151) rfl rfl (ao HT_) ?_
            refine tk_ 21 (some 30) (m_ 38 4194303) rfl rfl (tw HT_ HW_) hHeld ?_
            refine tk_ 23 (some 32) (m_ 38 12582911) rfl rfl (tw HT_ HW_) hHeld ?_
            refine o1_ 22 (some 31) (m_ 38 16777215) rfl rfl (oo HT_) (fun K hK => ?_)
            refine gs_ rfl Tryd.func29 (frac_Ceil.calls _ _ _ _ _ A11.out (tt GT)) ag ?_
            intro w45 hb
            replace BK958 := bb BK958 hb
            replace BK959 := bb BK959 hb
            replace HB := bs HB hb
            (try clear hb)
            refine hK.out _ _ ⟨ct BK958 0, ct BK958 1, ct BK959 0, ct BK959 1⟩ (fun hHeld => ?_)
            clear hK K
            refine nr_ (some 31) ?_
            refine o1_ 24 (some 33) (m_ 38 33554431) rfl rfl (oo HT_) (fun K hK => ?_)
            refine gs_ rfl Tryd.func30 (carrefourref02_Ceil.calls _ _ _ _ _ A12.out) ag ?_
            intro w46 hb
            replace BK958 := bb BK958 hb
            replace BK959 := bb BK959 hb
            replace HB := bs HB hb
            (try clear hb)
            refine hK.out _ _ ⟨ct BK958 0, ct BK958 1, ct BK959 0, ct BK959 1⟩ (fun hHeld => ?_)
            clear hK K
            refine nr_ (some 33) ?_
            refine pu_ 25 (some 34) (m_ 38 67108863) rfl rfl (ao HT_) ?_
            refine pu_ 26 (some 35) (m_ 38 134217727) rfl rfl (ao HT_) ?_
            refine pu_ 27 (some 36) (m_ 38 268435455) rfl rfl (ao HT_) ?_
            refine tk_ 28 (some 37) (m_ 38 536870911) rfl rfl (tw HT_ HW_) hHeld ?_
            refine tk_ 30 (some 39) (m_ 38 1610612735) rfl rfl (tw HT_ HW_) hHeld ?_
            refine o1_ 29 (some 38) (m_ 38 2147483647) rfl rfl (oo HT_) (fun K hK => ?_)
            refine gs_ rfl Tryd.func31 (frac_Print.calls _ _ _ _ _ A14.out (tt GT)) ag ?_
            intro w47 hb
            replace BK958 := bb BK958 hb
            replace BK959 := bb BK959 hb
            replace HB := bs HB hb
            (try clear hb)
            refine hK.out _ _ ⟨ct BK958 0, ct BK958 1, ct BK959 0, ct BK959 1⟩ (fun hHeld => ?_)
            clear hK K
            refine nr_ (some 38) ?_
            refine o1_ 31 (some 40) (m_ 38 4294967295) rfl rfl (oo HT_) (fun K hK => ?_)
            refine gs_ rfl Tryd.func32 (carrefourref02_Print.calls _ _ _ _ _ A15.out) ag ?_
            intro w48 hb
            replace BK958 := bb BK958 hb
            replace BK959 := bb BK959 hb
            replace HB := bs HB hb
            (try clear hb)
            refine hK.out _ _ ⟨ct BK958 0, ct BK958 1, ct BK959 0, ct BK959 1⟩ (fun hHeld => ?_)
            clear hK K
            refine nr_ (some 40) ?_
            refine pu_ 32 (some 41) (m_ 38 8589934591) rfl rfl (ao HT_) ?_
            refine pu_ 33 (some 42) (m_ 38 17179869183) rfl rfl (ao HT_) ?_
            refine pu_ 34 (some 43) (m_ 38 34359738367) rfl rfl (ao HT_) ?_
            refine pv_ 35 (some 44) (m_ 38 68719476735) rfl rfl (ao HT_) ?_
            refine pu_ 36 (some 45) (m_ 38 137438953471) rfl rfl (ao HT_) ?_
            refine pu_ 37 (some 4) (m_ 38 274877906943) rfl rfl (ao HT_) ?_
            refine done_ (done_of HT_.out (by kernel_rfl)) ?_
            try go_wp2
            go_ret
            exact ⟨ae, bf HB⟩
        · rw [if_neg c13] at H
          have c13b0 : (t965 == t966) = false := beq_eq_false_iff_ne.mpr c13
          have c13b1 : (t965 != t966) = true := bne_iff_ne.mpr c13
          obtain rfl := Option.some.inj H
          go_enter Tryd.func7, Tryd.ntmps7
          try go_wp2_with (first | ((with_reducible refine gd 2 rfl ?_); refine bx_ 2 23 #[.int .i64 a0_0, .int .i64 a0_1] rfl rfl ?_; intro gb958 hg w49 BK958 hb; have GE958 := bz HB hg; replace HB := bs HB hb; clear hb hg) | ((with_reducible refine gd 3 rfl ?_); refine bx_ 3 23 #[.int .i64 a1_0, .int .i64 a1_1] rfl rfl ?_; intro gb959 hg w50 BK959 hb; have GE959 := bz HB hg; have ⟨NB958_959, NB959_958⟩ := nb BK958 hg; replace BK958 := bb BK958 hb; replace HB := bs HB hb; clear hb hg; have hnb51 := nn NB958_959; have hcz52 := k2 BK958; have hcz53 := k2 BK959) | ((with_reducible refine gc 25 rfl ?_); refine gm_ (some 8) rfl rfl Tryd.func25 (frac_Cmp.calls _ _ _ _ _ _ _ A3.out (tt GT)) ag ?_; intro w54 hb; replace BK958 := bb BK958 hb; replace BK959 := bb BK959 hb; replace HB := bs HB hb; (try clear hb)))
          replace BK958 := Aside0.mk (blk_drew BK958.out)
          replace BK959 := Aside0.mk (blk_drew BK959.out)
          replace HB := Aside0.mk (below_drew1 HB.out)
          refine start_ (n := 38) (S := fun w' => c_ w' gb958 0 (.int .i64 a0_0) ∧ c_ w' gb958 1 (.int .i64 a0_1) ∧ c_ w' gb959 0 (.int .i64 a1_0) ∧ c_ w' gb959 1 (.int .i64 a1_1)) (ds := []) (m_ 38 0) (by kernel_rfl) rfl rfl ⟨ct BK958 0, ct BK958 1, ct BK959 0, ct BK959 1⟩ (fun hHeld => ?_); refine with_tabW carrefourlaw02_FracOrder.tab2 carrefourlaw02_FracOrder.bits2 (fun HT_ HW_ => ?_)
          generalize w54.drew = w55 at BK958 BK959 HB hHeld ⊢
          refine pu_ 0 (some 9) (m_ 38 1) rfl rfl (ao HT_) ?_
          refine tk_ 1 (some 10) (m_ 38 3) rfl rfl (tw HT_ HW_) hHeld ?_
          refine tk_ 2 (some 11) (m_ 38 7) rfl rfl (tw HT_ HW_) hHeld ?_
          refine o1_ 3 (some 12) (m_ 38 15) rfl rfl (oo HT_) (fun K hK => ?_)
          refine gs_ rfl Tryd.func26 (carrefourref02_Cmp.calls _ _ _ _ _ _ _ A4.out) ag ?_
          intro w56 hb
          replace BK958 := bb BK958 hb
          replace BK959 := bb BK959 hb
          replace HB := bs HB hb
          (try clear hb)
          refine hK.out _ _ ⟨ct BK958 0, ct BK958 1, ct BK959 0, ct BK959 1⟩ (fun hHeld => ?_)
          clear hK K
          refine nr_ (some 12) ?_
          refine pu_ 4 (some 13) (m_ 38 31) rfl rfl (ao HT_) ?_
          refine pu_ 5 (some 14) (m_ 38 63) rfl rfl (ao HT_) ?_
          refine pu_ 6 (some 15) (m_ 38 127) rfl rfl (ao HT_) ?_
          refine tk_ 7 (some 16) (m_ 38 255) rfl rfl (tw HT_ HW_) hHeld ?_
          refine tk_ 8 (some 17) (m_ 38 511) rfl rfl (tw HT_ HW_) hHeld ?_
          refine o1_ 9 (some 18) (m_ 38 1023) rfl rfl (oo HT_) (fun K hK => ?_)
          refine gs_ rfl Tryd.func25 (frac_Cmp.calls _ _ _ _ _ _ _ A6.out (tt GT)) ag ?_
          intro w57 hb
          replace BK958 := bb BK958 hb
          replace BK959 := bb BK959 hb
          replace HB := bs HB hb
          (try clear hb)
          refine hK.out _ _ ⟨ct BK958 0, ct BK958 1, ct BK959 0, ct BK959 1⟩ (fun hHeld => ?_)
          clear hK K
          refine nr_ (some 18) ?_
          refine pu_ 10 (some 19) (m_ 38 2047) rfl rfl (ao HT_) ?_
          refine pu_ 11 (some 20) (m_ 38 4095) rfl rfl (ao HT_) ?_
          refine pu_ 12 (some 21) (m_ 38 8191) rfl rfl (ao HT_) ?_
          refine pu_ 13 (some 22) (m_ 38 16383) rfl rfl (ao HT_) ?_
          refine tk_ 14 (some 23) (m_ 38 32767) rfl rfl (tw HT_ HW_) hHeld ?_
          refine tk_ 16 (some 25) (m_ 38 98303) rfl rfl (tw HT_ HW_) hHeld ?_
          refine o1_ 15 (some 24) (m_ 38 131071) rfl rfl (oo HT_) (fun K hK => ?_)
          refine gs_ rfl Tryd.func27 (frac_Floor.calls _ _ _ _ _ A8.out (tt GT)) ag ?_
          intro w58 hb
          replace BK958 := bb BK958 hb
          replace BK959 := bb BK959 hb
          replace HB := bs HB hb
          (try clear hb)
          refine hK.out _ _ ⟨ct BK958 0, ct BK958 1, ct BK959 0, ct BK959 1⟩ (fun hHeld => ?_)
          clear hK K
          refine nr_ (some 24) ?_
          refine o1_ 17 (some 26) (m_ 38 262143) rfl rfl (oo HT_) (fun K hK => ?_)
          refine gs_ rfl Tryd.func28 (carrefourref02_Floor.calls _ _ _ _ _ A9.out) ag ?_
          intro w59 hb
          replace BK958 := bb BK958 hb
          replace BK959 := bb BK959 hb
          replace HB := bs HB hb
          (try clear hb)
          refine hK.out _ _ ⟨ct BK958 0, ct BK958 1, ct BK959 0, ct BK959 1⟩ (fun hHeld => ?_)
          clear hK K
          refine nr_ (some 26) ?_
          refine pu_ 18 (some 27) (m_ 38 524287) rfl rfl (ao HT_) ?_
          refine pu_ 19 (some 28) (m_ 38 1048575) rfl rfl (ao HT_) ?_
          refine pu_ 20 (some 29) (m_ 38 2097151) rfl rfl (ao HT_) ?_
          refine tk_ 21 (some 30) (m_ 38 4194303) rfl rfl (tw HT_ HW_) hHeld ?_
          refine tk_ 23 (some 32) (m_ 38 12582911) rfl rfl (tw HT_ HW_) hHeld ?_
          refine o1_ 22 (some 31) (m_ 38 16777215) rfl rfl (oo HT_) (fun K hK => ?_)
          refine gs_ rfl Tryd.func29 (frac_Ceil.calls _ _ _ _ _ A11.out (tt GT)) ag ?_
          intro w60 hb
          replace BK958 := bb BK958 hb
          replace BK959 := bb BK959 hb
          replace HB := bs HB hb
          (try clear hb)
          refine hK.out _ _ ⟨ct BK958 0, ct BK958 1, ct BK959 0, ct BK959 1⟩ (fun hHeld => ?_)
          clear hK K
          refine nr_ (some 31) ?_
          refine o1_ 24 (some 33) (m_ 38 33554431) rfl rfl (oo HT_) (fun K hK => ?_)
          refine gs_ rfl Tryd.func30 (carrefourref02_Ceil.calls _ _ _ _ _ A12.out) ag ?_
          intro w61 hb
          replace BK958 := bb BK958 hb
          replace BK959 := bb BK959 hb
          replace HB := bs HB hb
          (try clear hb)
          refine hK.out _ _ ⟨ct BK958 0, ct BK958 1, ct BK959 0, ct BK959 1⟩ (fun hHeld => ?_)
          clear hK K
          refine nr_ (some 33) ?_
          refine pu_ 25 (some 34) (m_ 38 67108863) rfl rfl (ao HT_) ?_
          refine pu_ 26 (some 35) (m_ 38 134217727) rfl rfl (ao HT_) ?_
          refine pu_ 27 (some 36) (m_ 38 268435455) rfl rfl (ao HT_) ?_
          refine pv_ 28 (some 37) (m_ 38 536870911) rfl rfl (ao HT_) ?_
          refine pv_ 29 (some 38) (m_ 38 1073741823) rfl rfl (ao HT_) ?_
          refine pv_ 30 (some 39) (m_ 38 2147483647) rfl rfl (ao HT_) ?_
          refine pv_ 31 (some 40) (m_ 38 4294967295) rfl rfl (ao HT_) ?_
          refine pv_ 32 (some 41) (m_ 38 8589934591) rfl rfl (ao HT_) ?_
          refine pu_ 33 (some 42) (m_ 38 17179869183) rfl rfl (ao HT_) ?_
          refine pu_ 34 (some 43) (m_ 38 34359738367) rfl rfl (ao HT_) ?_
          refine pv_ 35 (some 44) (m_ 38 68719476735) rfl rfl (ao HT_) ?_
          refine pu_ 36 (some 45) (m_ 38 137438953471) rfl rfl (ao HT_) ?_
          refine pu_ 37 (some 4) (m_ 38 274877906943) rfl rfl (ao HT_) ?_
          refine done_ (done_of HT_.out (by kernel_rfl)) ?_
          try go_wp2
          go_ret
          exact ⟨ae, bf HB⟩
      · rw [if_neg c10] at H
        have c10b0 : (t963 == t964) = false := beq_eq_false_iff_ne.mpr c10
        have c10b1 : (t963 != t964) = true := bne_iff_ne.mpr c10
        obtain rfl := Option.some.inj H
        go_enter Tryd.func7, Tryd.ntmps7
        try go_wp2_with (first | ((with_reducible refine gd 2 rfl ?_); refine bx_ 2 23 #[.int .i64 a0_0, .int .i64 a0_1] rfl rfl ?_; intro gb958 hg w62 BK958 hb; have GE958 := bz HB hg; replace HB := bs HB hb; clear hb hg) | ((with_reducible refine gd 3 rfl ?_); refine bx_ 3 23 #[.int .i64 a1_0, .int .i64 a1_1] rfl rfl ?_; intro gb959 hg w63 BK959 hb; have GE959 := bz HB hg; have ⟨NB958_959, NB959_958⟩ := nb BK958 hg; replace BK958 := bb BK958 hb; replace HB := bs HB hb; clear hb hg; have hnb64 := nn NB958_959; have hcz65 := k2 BK958; have hcz66 := k2 BK959) | ((with_reducible refine gc 25 rfl ?_); refine gm_ (some 8) rfl rfl Tryd.func25 (frac_Cmp.calls _ _ _ _ _ _ _ A3.out (tt GT)) ag ?_; intro w67 hb; replace BK958 := bb BK958 hb; replace BK959 := bb BK959 hb; replace HB := bs HB hb; (try clear hb)))
        replace BK958 := Aside0.mk (blk_drew BK958.out)
        replace BK959 := Aside0.mk (blk_drew BK959.out)
        replace HB := Aside0.mk (below_drew1 HB.out)
        refine start_ (n := 38) (S := fun w' => c_ w' gb958 0 (.int .i64 a0_0) ∧ c_ w' gb958 1 (.int .i64 a0_1) ∧ c_ w' gb959 0 (.int .i64 a1_0) ∧ c_ w' gb959 1 (.int .i64 a1_1)) (ds := []) (m_ 38 0) (by kernel_rfl) rfl rfl ⟨ct BK958 0, ct BK958 1, ct BK959 0, ct BK959 1⟩ (fun hHeld => ?_); refine with_tabW carrefourlaw02_FracOrder.tab2 carrefourlaw02_FracOrder.bits2 (fun HT_ HW_ => ?_)
        generalize w67.drew = w68 at BK958 BK959 HB hHeld ⊢
        refine pu_ 0 (some 9) (m_ 38 1) rfl rfl (ao HT_) ?_
        refine tk_ 1 (some 10) (m_ 38 3) rfl rfl (tw HT_ HW_) hHeld ?_
        refine tk_ 2 (some 11) (m_ 38 7) rfl rfl (tw HT_ HW_) hHeld ?_
        refine o1_ 3 (some 12) (m_ 38 15) rfl rfl (oo HT_) (fun K hK => ?_)
        refine gs_ rfl Tryd.func26 (carrefourref02_Cmp.calls _ _ _ _ _ _ _ A4.out) ag ?_
        intro w69 hb
        replace BK958 := bb BK958 hb
        replace BK959 := bb BK959 hb
        replace HB := bs HB hb
        (try clear hb)
        refine hK.out _ _ ⟨ct BK958 0, ct BK958 1, ct BK959 0, ct BK959 1⟩ (fun hHeld => ?_)
        clear hK K
        refine nr_ (some 12) ?_
        refine pu_ 4 (some 13) (m_ 38 31) rfl rfl (ao HT_) ?_
        refine pu_ 5 (some 14) (m_ 38 63) rfl rfl (ao HT_) ?_
        refine pu_ 6 (some 15) (m_ 38 127) rfl rfl (ao HT_) ?_
        refine tk_ 7 (some 16) (m_ 38 255) rfl rfl (tw HT_ HW_) hHeld ?_
        refine tk_ 8 (some 17) (m_ 38 511) rfl rfl (tw HT_ HW_) hHeld ?_
        refine o1_ 9 (some 18) (m_ 38 1023) rfl rfl (oo HT_) (fun K hK => ?_)
        refine gs_ rfl Tryd.func25 (frac_Cmp.calls _ _ _ _ _ _ _ A6.out (tt GT)) ag ?_
        intro w70 hb
        replace BK958 := bb BK958 hb
        replace BK959 := bb BK959 hb
        replace HB := bs HB hb
        (try clear hb)
        refine hK.out _ _ ⟨ct BK958 0, ct BK958 1, ct BK959 0, ct BK959 1⟩ (fun hHeld => ?_)
        clear hK K
        refine nr_ (some 18) ?_
        refine pu_ 10 (some 19) (m_ 38 2047) rfl rfl (ao HT_) ?_
        refine pu_ 11 (some 20) (m_ 38 4095) rfl rfl (ao HT_) ?_
        refine pu_ 12 (some 21) (m_ 38 8191) rfl rfl (ao HT_) ?_
        refine pu_ 13 (some 22) (m_ 38 16383) rfl rfl (ao HT_) ?_
        refine tk_ 14 (some 23) (m_ 38 32767) rfl rfl (tw HT_ HW_) hHeld ?_
        refine tk_ 16 (some 25) (m_ 38 98303) rfl rfl (tw HT_ HW_) hHeld ?_
        refine o1_ 15 (some 24) (m_ 38 131071) rfl rfl (oo HT_) (fun K hK => ?_)
        refine gs_ rfl Tryd.func27 (frac_Floor.calls _ _ _ _ _ A8.out (tt GT)) ag ?_
        intro w71 hb
        replace BK958 := bb BK958 hb
        replace BK959 := bb BK959 hb
        replace HB := bs HB hb
        (try clear hb)
        refine hK.out _ _ ⟨ct BK958 0, ct BK958 1, ct BK959 0, ct BK959 1⟩ (fun hHeld => ?_)
        clear hK K
        refine nr_ (some 24) ?_
        refine o1_ 17 (some 26) (m_ 38 262143) rfl rfl (oo HT_) (fun K hK => ?_)
        refine gs_ rfl Tryd.func28 (carrefourref02_Floor.calls _ _ _ _ _ A9.out) ag ?_
        intro w72 hb
        replace BK958 := bb BK958 hb
        replace BK959 := bb BK959 hb
        replace HB := bs HB hb
        (try clear hb)
        refine hK.out _ _ ⟨ct BK958 0, ct BK958 1, ct BK959 0, ct BK959 1⟩ (fun hHeld => ?_)
        clear hK K
        refine nr_ (some 26) ?_
        refine pu_ 18 (some 27) (m_ 38 524287) rfl rfl (ao HT_) ?_
        refine pu_ 19 (some 28) (m_ 38 1048575) rfl rfl (ao HT_) ?_
        refine pu_ 20 (some 29) (m_ 38 2097151) rfl rfl (ao HT_) ?_
        refine pv_ 21 (some 30) (m_ 38 4194303) rfl rfl (ao HT_) ?_
        refine pv_ 22 (some 31) (m_ 38 8388607) rfl rfl (ao HT_) ?_
        refine pv_ 23 (some 32) (m_ 38 16777215) rfl rfl (ao HT_) ?_
        refine pv_ 24 (some 33) (m_ 38 33554431) rfl rfl (ao HT_) ?_
        refine pv_ 25 (some 34) (m_ 38 67108863) rfl rfl (ao HT_) ?_
        refine pu_ 26 (some 35) (m_ 38 134217727) rfl rfl (ao HT_) ?_
        refine pu_ 27 (some 36) (m_ 38 268435455) rfl rfl (ao HT_) ?_
        refine pv_ 28 (some 37) (m_ 38 536870911) rfl rfl (ao HT_) ?_
        refine pv_ 29 (some 38) (m_ 38 1073741823) rfl rfl (ao HT_) ?_
        refine pv_ 30 (some 39) (m_ 38 2147483647) rfl rfl (ao HT_) ?_
        refine pv_ 31 (some 40) (m_ 38 4294967295) rfl rfl (ao HT_) ?_
        refine pv_ 32 (some 41) (m_ 38 8589934591) rfl rfl (ao HT_) ?_
        refine pu_ 33 (some 42) (m_ 38 17179869183) rfl rfl (ao HT_) ?_
        refine pu_ 34 (some 43) (m_ 38 34359738367) rfl rfl (ao HT_) ?_
        refine pv_ 35 (some 44) (m_ 38 68719476735) rfl rfl (ao HT_) ?_
        refine pu_ 36 (some 45) (m_ 38 137438953471) rfl rfl (ao HT_) ?_
        refine pu_ 37 (some 4) (m_ 38 274877906943) rfl rfl (ao HT_) ?_
        refine done_ (done_of HT_.out (by kernel_rfl)) ?_
        try go_wp2
        go_ret
        exact ⟨ae, bf HB⟩
    · rw [if_neg c7] at H
      have c7b0 : (t960 == (wrap64 (-t962))) = false := beq_eq_false_iff_ne.mpr c7
      have c7b1 : (t960 != (wrap64 (-t962))) = true := bne_iff_ne.mpr c7
      obtain rfl := Option.some.inj H
      go_enter Tryd.func7, Tryd.ntmps7
      try go_wp2_with (first | ((with_reducible refine gd 2 rfl ?_); refine bx_ 2 23 #[.int .i64 a0_0, .int .i64 a0_1] rfl rfl ?_; intro gb958 hg w73 BK958 hb; have GE958 := bz HB hg; replace HB := bs HB hb; clear hb hg) | ((with_reducible refine gd 3 rfl ?_); refine bx_ 3 23 #[.int .i64 a1_0, .int .i64 a1_1] rfl rfl ?_; intro gb959 hg w74 BK959 hb; have GE959 := bz HB hg; have ⟨NB958_959, NB959_958⟩ := nb BK958 hg; replace BK958 := bb BK958 hb; replace HB := bs HB hb; clear hb hg; have hnb75 := nn NB958_959; have hcz76 := k2 BK958; have hcz77 := k2 BK959) | ((with_reducible refine gc 25 rfl ?_); refine gm_ (some 8) rfl rfl Tryd.func25 (frac_Cmp.calls _ _ _ _ _ _ _ A3.out (tt GT)) ag ?_; intro w78 hb; replace BK958 := bb BK958 hb; replace BK959 := bb BK959 hb; replace HB := bs HB hb; (try clear hb)))
      replace BK958 := Aside0.mk (blk_drew BK958.out)
      replace BK959 := Aside0.mk (blk_drew BK959.out)
      replace HB := Aside0.mk (below_drew1 HB.out)
      refine start_ (n := 38) (S := fun w' => c_ w' gb958 0 (.int .i64 a0_0) ∧ c_ w' gb958 1 (.int .i64 a0_1) ∧ c_ w' gb959 0 (.int .i64 a1_0) ∧ c_ w' gb959 1 (.int .i64 a1_1)) (ds := []) (m_ 38 0) (by kernel_rfl) rfl rfl ⟨ct BK958 0, ct BK958 1, ct BK959 0, ct BK959 1⟩ (fun hHeld => ?_); refine with_tabW carrefourlaw02_FracOrder.tab2 carrefourlaw02_FracOrder.bits2 (fun HT_ HW_ => ?_)
      generalize w78.drew = w79 at BK958 BK959 HB hHeld ⊢
      refine pu_ 0 (some 9) (m_ 38 1) rfl rfl (ao HT_) ?_
      refine tk_ 1 (some 10) (m_ 38 3) rfl rfl (tw HT_ HW_) hHeld ?_
      refine tk_ 2 (some 11) (m_ 38 7) rfl rfl (tw HT_ HW_) hHeld ?_
      refine o1_ 3 (some 12) (m_ 38 15) rfl rfl (oo HT_) (fun K hK => ?_)
      refine gs_ rfl Tryd.func26 (carrefourref02_Cmp.calls _ _ _ _ _ _ _ A4.out) ag ?_
      intro w80 hb
      replace BK958 := bb BK958 hb
      replace BK959 := bb BK959 hb
      replace HB := bs HB hb
      (try clear hb)
      refine hK.out _ _ ⟨ct BK958 0, ct BK958 1, ct BK959 0, ct BK959 1⟩ (fun hHeld => ?_)
      clear hK K
      refine nr_ (some 12) ?_
      refine pu_ 4 (some 13) (m_ 38 31) rfl rfl (ao HT_) ?_
      refine pu_ 5 (some 14) (m_ 38 63) rfl rfl (ao HT_) ?_
      refine pu_ 6 (some 15) (m_ 38 127) rfl rfl (ao HT_) ?_
      refine tk_ 7 (some 16) (m_ 38 255) rfl rfl (tw HT_ HW_) hHeld ?_
      refine tk_ 8 (some 17) (m_ 38 511) rfl rfl (tw HT_ HW_) hHeld ?_
      refine o1_ 9 (some 18) (m_ 38 1023) rfl rfl (oo HT_) (fun K hK => ?_)
      refine gs_ rfl Tryd.func25 (frac_Cmp.calls _ _ _ _ _ _ _ A6.out (tt GT)) ag ?_
      intro w81 hb
      replace BK958 := bb BK958 hb
      replace BK959 := bb BK959 hb
      replace HB := bs HB hb
      (try clear hb)
      refine hK.out _ _ ⟨ct BK958 0, ct BK958 1, ct BK959 0, ct BK959 1⟩ (fun hHeld => ?_)
      clear hK K
      refine nr_ (some 18) ?_
      refine pu_ 10 (some 19) (m_ 38 2047) rfl rfl (ao HT_) ?_
      refine pu_ 11 (some 20) (m_ 38 4095) rfl rfl (ao HT_) ?_
      refine pu_ 12 (some 21) (m_ 38 8191) rfl rfl (ao HT_) ?_
      refine pu_ 13 (some 22) (m_ 38 16383) rfl rfl (ao HT_) ?_
      refine pv_ 14 (some 23) (m_ 38 32767) rfl rfl (ao HT_) ?_
      refine pv_ 15 (some 24) (m_ 38 65535) rfl rfl (ao HT_) ?_
      refine pv_ 16 (some 25) (m_ 38 131071) rfl rfl (ao HT_) ?_
      refine pv_ 17 (some 26) (m_ 38 262143) rfl rfl (ao HT_) ?_
      refine pv_ 18 (some 27) (m_ 38 524287) rfl rfl (ao HT_) ?_
      refine pu_ 19 (some 28) (m_ 38 1048575) rfl rfl (ao HT_) ?_
      refine pu_ 20 (some 29) (m_ 38 2097151) rfl rfl (ao HT_) ?_
      refine pv_ 21 (some 30) (m_ 38 4194303) rfl rfl (ao HT_) ?_
      refine pv_ 22 (some 31) (m_ 38 8388607) rfl rfl (ao HT_) ?_
      refine pv_ 23 (some 32) (m_ 38 16777215) rfl rfl (ao HT_) ?_
      refine pv_ 24 (some 33) (m_ 38 33554431) rfl rfl (ao HT_) ?_
      refine pv_ 25 (some 34) (m_ 38 67108863) rfl rfl (ao HT_) ?_
      refine pu_ 26 (some 35) (m_ 38 134217727) rfl rfl (ao HT_) ?_
      refine pu_ 27 (some 36) (m_ 38 268435455) rfl rfl (ao HT_) ?_
      refine pv_ 28 (some 37) (m_ 38 536870911) rfl rfl (ao HT_) ?_
      refine pv_ 29 (some 38) (m_ 38 1073741823) rfl rfl (ao HT_) ?_
      refine pv_ 30 (some 39) (m_ 38 2147483647) rfl rfl (ao HT_) ?_
      refine pv_ 31 (some 40) (m_ 38 4294967295) rfl rfl (ao HT_) ?_
      refine pv_ 32 (some 41) (m_ 38 8589934591) rfl rfl (ao HT_) ?_
      refine pu_ 33 (some 42) (m_ 38 17179869183) rfl rfl (ao HT_) ?_
      refine pu_ 34 (some 43) (m_ 38 34359738367) rfl rfl (ao HT_) ?_
      refine pv_ 35 (some 44) (m_ 38 68719476735) rfl rfl (ao HT_) ?_
      refine pu_ 36 (some 45) (m_ 38 137438953471) rfl rfl (ao HT_) ?_
      refine pu_ 37 (some 4) (m_ 38 274877906943) rfl rfl (ao HT_) ?_
      refine done_ (done_of HT_.out (by kernel_rfl)) ?_
      try go_wp2
      go_ret
      exact ⟨ae, bf HB⟩
  · rw [if_neg c5] at H
    have c5b0 : (t960 == t961) = false := beq_eq_false_iff_ne.mpr c5
    have c5b1 : (t960 != t961) = true := bne_iff_ne.mpr c5
    obtain rfl := Option.some.inj H
    go_enter Tryd.func7, Tryd.ntmps7
    try go_wp2_with (first | ((with_reducible refine gd 2 rfl ?_); refine bx_ 2 23 #[.int .i64 a0_0, .int .i64 a0_1] rfl rfl ?_; intro gb958 hg w82 BK958 hb; have GE958 := bz HB hg; replace HB := bs HB hb; clear hb hg) | ((with_reducible refine gd 3 rfl ?_); refine bx_ 3 23 #[.int .i64 a1_0, .int .i64 a1_1] rfl rfl ?_; intro gb959 hg w83 BK959 hb; have GE959 := bz HB hg; have ⟨NB958_959, NB959_958⟩ := nb BK958 hg; replace BK958 := bb BK958 hb; replace HB := bs HB hb; clear hb hg; have hnb84 := nn NB958_959; have hcz85 := k2 BK958; have hcz86 := k2 BK959) | ((with_reducible refine gc 25 rfl ?_); refine gm_ (some 8) rfl rfl Tryd.func25 (frac_Cmp.calls _ _ _ _ _ _ _ A3.out (tt GT)) ag ?_; intro w87 hb; replace BK958 := bb BK958 hb; replace BK959 := bb BK959 hb; replace HB := bs HB hb; (try clear hb)))
    replace BK958 := Aside0.mk (blk_drew BK958.out)
    replace BK959 := Aside0.mk (blk_drew BK959.out)
    replace HB := Aside0.mk (below_drew1 HB.out)
    refine start_ (n := 38) (S := fun w' => c_ w' gb958 0 (.int .i64 a0_0) ∧ c_ w' gb958 1 (.int .i64 a0_1) ∧ c_ w' gb959 0 (.int .i64 a1_0) ∧ c_ w' gb959 1 (.int .i64 a1_1)) (ds := []) (m_ 38 0) (by kernel_rfl) rfl rfl ⟨ct BK958 0, ct BK958 1, ct BK959 0, ct BK959 1⟩ (fun hHeld => ?_); refine with_tabW carrefourlaw02_FracOrder.tab2 carrefourlaw02_FracOrder.bits2 (fun HT_ HW_ => ?_)
    generalize w87.drew = w88 at BK958 BK959 HB hHeld ⊢
    refine pu_ 0 (some 9) (m_ 38 1) rfl rfl (ao HT_) ?_
    refine tk_ 1 (some 10) (m_ 38 3) rfl rfl (tw HT_ HW_) hHeld ?_
    refine tk_ 2 (some 11) (m_ 38 7) rfl rfl (tw HT_ HW_) hHeld ?_
    refine o1_ 3 (some 12) (m_ 38 15) rfl rfl (oo HT_) (fun K hK => ?_)
    refine gs_ rfl Tryd.func26 (carrefourref02_Cmp.calls _ _ _ _ _ _ _ A4.out) ag ?_
    intro w89 hb
    replace BK958 := bb BK958 hb
    replace BK959 := bb BK959 hb
    replace HB := bs HB hb
    (try clear hb)
    refine hK.out _ _ ⟨ct BK958 0, ct BK958 1, ct BK959 0, ct BK959 1⟩ (fun hHeld => ?_)
    clear hK K
    refine nr_ (some 12) ?_
    refine pu_ 4 (some 13) (m_ 38 31) rfl rfl (ao HT_) ?_
    refine pu_ 5 (some 14) (m_ 38 63) rfl rfl (ao HT_) ?_
    refine pv_ 6 (some 15) (m_ 38 127) rfl rfl (ao HT_) ?_
    refine pv_ 7 (some 16) (m_ 38 255) rfl rfl (ao HT_) ?_
    refine pv_ 8 (some 17) (m_ 38 511) rfl rfl (ao HT_) ?_
    refine pv_ 9 (some 18) (m_ 38 1023) rfl rfl (ao HT_) ?_
    refine pv_ 10 (some 19) (m_ 38 2047) rfl rfl (ao HT_) ?_
    refine pv_ 11 (some 20) (m_ 38 4095) rfl rfl (ao HT_) ?_
    refine pu_ 12 (some 21) (m_ 38 8191) rfl rfl (ao HT_) ?_
    refine pu_ 13 (some 22) (m_ 38 16383) rfl rfl (ao HT_) ?_
    refine pv_ 14 (some 23) (m_ 38 32767) rfl rfl (ao HT_) ?_
    refine pv_ 15 (some 24) (m_ 38 65535) rfl rfl (ao HT_) ?_
    refine pv_ 16 (some 25) (m_ 38 131071) rfl rfl (ao HT_) ?_
    refine pv_ 17 (some 26) (m_ 38 262143) rfl rfl (ao HT_) ?_
    refine pv_ 18 (some 27) (m_ 38 524287) rfl rfl (ao HT_) ?_
    refine pu_ 19 (some 28) (m_ 38 1048575) rfl rfl (ao HT_) ?_
    refine pu_ 20 (some 29) (m_ 38 2097151) rfl rfl (ao HT_) ?_
    refine pv_ 21 (some 30) (m_ 38 4194303) rfl rfl (ao HT_) ?_
    refine pv_ 22 (some 31) (m_ 38 8388607) rfl rfl (ao HT_) ?_
    refine pv_ 23 (some 32) (m_ 38 16777215) rfl rfl (ao HT_) ?_
    refine pv_ 24 (some 33) (m_ 38 33554431) rfl rfl (ao HT_) ?_
    refine pv_ 25 (some 34) (m_ 38 67108863) rfl rfl (ao HT_) ?_
    refine pu_ 26 (some 35) (m_ 38 134217727) rfl rfl (ao HT_) ?_
    refine pu_ 27 (some 36) (m_ 38 268435455) rfl rfl (ao HT_) ?_
    refine pv_ 28 (some 37) (m_ 38 536870911) rfl rfl (ao HT_) ?_
    refine pv_ 29 (some 38) (m_ 38 1073741823) rfl rfl (ao HT_) ?_
    refine pv_ 30 (some 39) (m_ 38 2147483647) rfl rfl (ao HT_) ?_
    refine pv_ 31 (some 40) (m_ 38 4294967295) rfl rfl (ao HT_) ?_
    refine pv_ 32 (some 41) (m_ 38 8589934591) rfl rfl (ao HT_) ?_
    refine pu_ 33 (some 42) (m_ 38 17179869183) rfl rfl (ao HT_) ?_
    refine pu_ 34 (some 43) (m_ 38 34359738367) rfl rfl (ao HT_) ?_
    refine pv_ 35 (some 44) (m_ 38 68719476735) rfl rfl (ao HT_) ?_
    refine pu_ 36 (some 45) (m_ 38 137438953471) rfl rfl (ao HT_) ?_
    refine pu_ 37 (some 4) (m_ 38 274877906943) rfl rfl (ao HT_) ?_
    refine done_ (done_of HT_.out (by kernel_rfl)) ?_
    try go_wp2
    go_ret
    exact ⟨ae, bf HB⟩

end Go.Proofs.YtjgnaccamakpdaaDoor.X
