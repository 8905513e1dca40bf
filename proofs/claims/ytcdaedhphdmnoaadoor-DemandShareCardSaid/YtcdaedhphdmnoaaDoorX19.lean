/- Walks: each '.calls' says that the Go function comes to what its Lean function tells. Conditions: as each theorem's head says. -/
import Derived.Test.YtcdaedhphdmnoaaDoorXD
import Derived.Test.YtcdaedhphdmnoaaDoorX0
import Derived.Test.YtcdaedhphdmnoaaDoorX14
import Derived.Test.YtcdaedhphdmnoaaDoorX15
import Derived.Test.YtcdaedhphdmnoaaDoorX16
import Derived.Test.YtcdaedhphdmnoaaDoorX17
import Derived.Test.YtcdaedhphdmnoaaDoorX18
namespace Go.Proofs.YtcdaedhphdmnoaaDoor.X
open Go.RowKit Go.Proofs.YtcdaedhphdmnoaaDoorW.PrintWords Go.Proofs.YtcdaedhphdmnoaaDoorW.PrintLast Go.Proofs.YtcdaedhphdmnoaaDoorW.PrintMore
attribute [local go_sem] max2_int min2_int max_two min_two max_three min_three max_four min_four   -- for this text's walks alone
set_option linter.unusedVariables false
set_option maxHeartbeats 8000000
set_option maxRecDepth 100000
set_option linter.unusedSimpArgs false

/-! ### carrefourref02_Add: function 8 -/
def carrefourref02_Add.T5 : Bool × List (List Nat × List Nat) := (true, [([], []), ([0], [0]), ([1], [1]), ([], []), ([3], [3]), ([4], [4]), ([2, 5, 2], [2, 5]), ([6, 6], [6]), ([7, 7, 0, 1, 2, 3, 4, 5, 6, 7], [7])])
def carrefourref02_Add.B5 : List Nat := [0, 1, 3, 0, 8, 24, 63, 127, 255]
theorem carrefourref02_Add.tab5 : rtab .any (opsOf Tryd.f8 5) = carrefourref02_Add.T5 := by kernel_rfl
theorem carrefourref02_Add.bits5 : waitsOk carrefourref02_Add.T5.2 carrefourref02_Add.B5 = true := by kernel_rfl
def carrefourref02_Add.T6 : Bool × List (List Nat × List Nat) := (true, [([], []), ([0], [0]), ([1], [1]), ([], []), ([3], [3]), ([4], [4]), ([2, 5, 2], [2, 5]), ([6, 6], [6]), ([7, 7, 0, 1, 2, 3, 4, 5, 6, 7], [7])])
def carrefourref02_Add.B6 : List Nat := [0, 1, 3, 0, 8, 24, 63, 127, 255]
theorem carrefourref02_Add.tab6 : rtab .any (opsOf Tryd.f8 6) = carrefourref02_Add.T6 := by kernel_rfl
theorem carrefourref02_Add.bits6 : waitsOk carrefourref02_Add.T6.2 carrefourref02_Add.B6 = true := by kernel_rfl
def carrefourref02_Add.T9 : Bool × List (List Nat × List Nat) := (true, [([], []), ([], []), ([0, 1], [0, 1]), ([2, 2], [2]), ([], []), ([], []), ([5], [5]), ([6], [6]), ([3, 4, 7, 3], [3, 4, 7]), ([8], [8]), ([8], [8]), ([9, 8, 0, 1, 2, 3, 4, 5, 6, 7, 8, 9, 10], [9]), ([10, 11, 0, 1, 2, 3, 4, 5, 6, 7, 8, 9, 10, 11], [10])])
def carrefourref02_Add.B9 : List Nat := [0, 0, 3, 7, 0, 0, 32, 96, 255, 511, 511, 2047, 4095]
theorem carrefourref02_Add.tab9 : rtab .any (opsOf Tryd.f8 9) = carrefourref02_Add.T9 := by kernel_rfl
theorem carrefourref02_Add.bits9 : waitsOk carrefourref02_Add.T9.2 carrefourref02_Add.B9 = true := by kernel_rfl
def carrefourref02_Add.T11 : Bool × List (List Nat × List Nat) := (true, [([], []), ([], []), ([0, 1], [0, 1]), ([2, 2], [2]), ([], []), ([], []), ([5], [5]), ([6], [6]), ([3, 4, 7, 3], [3, 4, 7]), ([8], [8]), ([8], [8]), ([9, 8, 0, 1, 2, 3, 4, 5, 6, 7, 8, 9, 10], [9]), ([10, 11, 0, 1, 2, 3, 4, 5, 6, 7, 8, 9, 10, 11], [10])])
def carrefourref02_Add.B11 : List Nat := [0, 0, 3, 7, 0, 0, 32, 96, 255, 511, 511, 2047, 4095]
theorem carrefourref02_Add.tab11 : rtab .any (opsOf Tryd.f8 11) = carrefourref02_Add.T11 := by kernel_rfl
theorem carrefourref02_Add.bits11 : waitsOk carrefourref02_Add.T11.2 carrefourref02_Add.B11 = true := by kernel_rfl
def carrefourref02_Add.T12 : Bool × List (List Nat × List Nat) := (true, [([], []), ([], []), ([0, 1], [0, 1]), ([2, 2], [2]), ([], []), ([], []), ([5], [5]), ([6], [6]), ([3, 4, 7, 3], [3, 4, 7]), ([8], [8]), ([8], [8]), ([9, 8, 0, 1, 2, 3, 4, 5, 6, 7, 8, 9, 10], [9]), ([10, 11, 0, 1, 2, 3, 4, 5, 6, 7, 8, 9, 10, 11], [10])])
def carrefourref02_Add.B12 : List Nat := [0, 0, 3, 7, 0, 0, 32, 96, 255, 511, 511, 2047, 4095]
theorem carrefourref02_Add.tab12 : rtab .any (opsOf Tryd.f8 12) = carrefourref02_Add.T12 := by kernel_rfl
theorem carrefourref02_Add.bits12 : waitsOk carrefourref02_Add.T12.2 carrefourref02_Add.B12 = true := by kernel_rfl
theorem carrefourref02_Add.calls (k : Nat) (a0_0 : Int) (a0_1 : Int) (a1_0 : Int) (a1_1 : Int) (r1 : Int) (r2 : Int) (r3 : Int) (w : World) (h : carrefourref02_Add.f k a0_0 a0_1 a1_0 a1_1 = some (r1, r2, r3)) :
    Calls Tryd.prog 8 #[.agg #[.int .i64 a0_0, .int .i64 a0_1], .agg #[.int .i64 a1_0, .int .i64 a1_1]] w fun e w' => e = .returned (.tuple #[.agg #[.int .i64 r1, .int .i64 r2], .int .i64 r3]) ∧ Below w.heap.size w w' := by
  have hu23 := Tryd.underlying23
  have HB := Aside0.mk (Below.refl w.heap.size w)
  have H : ((carrefourref02_Norm.f k a0_0 a0_1).bind fun bt504 => ((carrefourref02_Norm.f k a1_0 a1_1).bind fun bt506 => ((carrefourref02_few.f bt504.1 bt504.2 bt506.1 bt506.2).bind fun t508 => (if t508 = true then ((carrefourref02_Of.f k (wrap64 ((wrap64 (bt504.1 * bt506.2)) + (wrap64 (bt506.1 * bt504.2)))) (wrap64 (bt504.2 * bt506.2))).bind fun bt509 => (some (bt509.1, bt509.2.1, bt509.2.2))) else ((carrefourref01_Size.f bt504.1).bind fun t512 => ((carrefourref01_Times.f k t512 (IntKind.u64.wrap (bt506.2))).bind fun t513 => ((carrefourref02_trim.f k t513).bind fun t516 => ((carrefourref01_Size.f bt506.1).bind fun t519 => ((carrefourref01_Times.f k t519 (IntKind.u64.wrap (bt504.2))).bind fun t520 => ((carrefourref02_trim.f k t520).bind fun t523 => ((carrefourref01_Times.f k (IntKind.u64.wrap (bt504.2)) (IntKind.u64.wrap (bt506.2))).bind fun t526 => ((carrefourref02_trim.f k t526).bind fun t529 => (if ((decide (bt504.1 < 0)) == (decide (bt506.1 < 0))) = true then ((carrefourref01_Plus.f k t516 t523).bind fun t532 => ((carrefourref02_trim.f k t532).bind fun t535 => ((carrefourref02_lowest.f k t535 t529 (decide (bt504.1 < 0))).bind fun bt538 => (some (bt538.1, bt538.2.1, bt538.2.2))))) else ((carrefourref01_Order.f k t516 t523).bind fun t541 => (if t541 ≥ 0 then ((carrefourref01_Minus.f k t516 t523).bind fun t542 => ((carrefourref02_trim.f k t542).bind fun t545 => ((carrefourref02_lowest.f k t545 t529 (decide (bt504.1 < 0))).bind fun bt548 => (some (bt548.1, bt548.2.1, bt548.2.2))))) else ((carrefourref01_Minus.f k t523 t516).bind fun t551 => ((carrefourref02_trim.f k t551).bind fun t554 => ((carrefourref02_lowest.f k t554 t529 (decide (bt506.1 < 0))).bind fun bt557 => (some (bt557.1, bt557.2.1, bt557.2.2)))))))))))))))))))) = some (r1, r2, r3) := h
  clear h
  replace H := bi_ H; obtain ⟨⟨t504, t505⟩, A3, H⟩ := H
  (try dsimp only at H)
  replace H := bi_ H; obtain ⟨⟨t506, t507⟩, A4, H⟩ := H
  (try dsimp only at H)
  replace H := bi_ H; obtain ⟨t508, A5, H⟩ := H
  (try dsimp only at H)
  by_cases c6 : t508 = true
  · subst c6
    have H1 : ((carrefourref02_Of.f k (wrap64 ((wrap64 (t504 * t507)) + (wrap64 (t506 * t505)))) (wrap64 (t505 * t507))).bind fun bt509 => (some (bt509.1, bt509.2.1, bt509.2.2))) = some (r1, r2, r3) := by rw [if_pos rfl] at H; exact H
    clear H
    have H := H1
    clear H1
    replace H := bi_ H; obtain ⟨⟨t509, t510, t511⟩, A7, H⟩ := H
    (try dsimp only at H)
    simp only [Option.some.injEq, Prod.mk.injEq] at H
    obtain ⟨rfl, rfl, rfl⟩ := H
    go_enter Tryd.func8, Tryd.ntmps8
    go_wp2_with (first | ((with_reducible refine gd 2 rfl ?_); refine bx_ 2 23 #[.int .i64 a0_0, .int .i64 a0_1] rfl rfl ?_; intro gb501 hg w8 BK501 hb; have GE501 := bz HB hg; replace HB := bs HB hb; clear hb hg) | ((with_reducible refine gd 3 rfl ?_); refine bx_ 3 23 #[.int .i64 a1_0, .int .i64 a1_1] rfl rfl ?_; intro gb502 hg w9 BK502 hb; have GE502 := bz HB hg; have ⟨NB501_502, NB502_501⟩ := nb BK501 hg; replace BK501 := bb BK501 hb; replace HB := bs HB hb; clear hb hg) | ((with_reducible refine gd 4 rfl ?_); refine bx_ 4 23 #[.int .i64 0, .int .i64 0] rfl rfl ?_; intro gb503 hg w10 BK503 hb; have GE503 := bz HB hg; have ⟨NB501_503, NB503_501⟩ := nb BK501 hg; have ⟨NB502_503, NB503_502⟩ := nb BK502 hg; replace BK501 := bb BK501 hb; replace BK502 := bb BK502 hb; replace HB := bs HB hb; clear hb hg; have hnb11 := nn NB501_502; have hnb12 := nn NB501_503; have hcz13 := X.k2 BK501) | ((with_reducible refine gc 16 rfl ?_); refine gm_ (some 10) rfl rfl Tryd.func16 (carrefourref02_Norm.calls _ _ _ _ _ _ A3.out) ag ?_; intro w14 hb; replace BK501 := bb BK501 hb; replace BK502 := bb BK502 hb; replace BK503 := bb BK503 hb; replace HB := bs HB hb; (try clear hb); have hcz15 := X.k2 BK501; have hnb16 := nn NB502_503; have hcz17 := X.k2 BK502) | ((with_reducible refine gc 16 rfl ?_); refine gm_ (some 12) rfl rfl Tryd.func16 (carrefourref02_Norm.calls _ _ _ _ _ _ A4.out) ag ?_; intro w18 hb; replace BK501 := bp_ #[.int .i64 t504, .int .i64 t505] BK501 hb; replace BK502 := bb BK502 hb; replace BK503 := bb BK503 hb; replace HB := bs HB hb; (try clear hb); have hcz19 := X.k2 BK502; have hcz20 := X.k2 BK501) | ((with_reducible refine gc 18 rfl ?_); refine gm_ (some 15) rfl rfl Tryd.func18 (carrefourref02_few.calls _ _ _ _ _ _ A5.out) ag ?_; intro w21 hb; replace BK501 := bb BK501 hb; replace BK502 := bp_ #[.int .i64 t506, .int .i64 t507] BK502 hb; replace BK503 := bb BK503 hb; replace HB := bs HB hb; (try clear hb); have hcz22 := X.k2 BK501; have hcz23 := X.k2 BK502) | ((with_reducible refine gc 19 rfl ?_); refine gm_ (some 32) rfl rfl Tryd.func19 (carrefourref02_Of.calls _ (wrap64 ((wrap64 (t504 * t507)) + (wrap64 (t506 * t505)))) (wrap64 (t505 * t507)) _ _ _ _ A7.out) ag ?_; intro w24 hb; replace BK503 := bb BK503 hb; replace HB := bs HB hb; (try clear hb); have hcz25 := X.k2 BK503))
    refine bodyPost_ret (results_ct rfl _ _ gb503 23 #[.int .i64 t509, .int .i64 t510] (0, 0) _ rfl (br_ BK503) Tryd.underlying23 rfl (by kernel_rfl)) rfl ?_
    exact ⟨ae, bf HB⟩
  · replace c6 := Bool.eq_false_iff.mpr c6
    subst c6
    have H1 : ((carrefourref01_Size.f t504).bind fun t512 => ((carrefourref01_Times.f k t512 (IntKind.u64.wrap (t507))).bind fun t513 => ((carrefourref02_trim.f k t513).bind fun t516 => ((carrefourref01_Size.f t506).bind fun t519 => ((carrefourref01_Times.f k t519 (IntKind.u64.wrap (t505))).bind fun t520 => ((carrefourref02_trim.f k t520).bind fun t523 => ((carrefourref01_Times.f k (IntKind.u64.wrap (t505)) (IntKind.u64.wrap (t507))).bind fun t526 => ((carrefourref02_trim.f k t526).bind fun t529 => (if ((decide (t504 < 0)) == (decide (t506 < 0))) = true then ((carrefourref01_Plus.f k t516 t523).bind fun t532 => ((carrefourref02_trim.f k t532).bind fun t535 => ((carrefourref02_lowest.f k t535 t529 (decide (t504 < 0))).bind fun bt538 => (some (bt538.1, bt538.2.1, bt538.2.2))))) else ((carrefourref01_Order.f k t516 t523).bind fun t541 => (if t541 ≥ 0 then ((carrefourref01_Minus.f k t516 t523).bind fun t542 => ((carrefourref02_trim.f k t542).bind fun t545 => ((carrefourref02_lowest.f k t545 t529 (decide (t504 < 0))).bind fun bt548 => (some (bt548.1, bt548.2.1, bt548.2.2))))) else ((carrefourref01_Minus.f k t523 t516).bind fun t551 => ((carrefourref02_trim.f k t551).bind fun t554 => ((carrefourref02_lowest.f k t554 t529 (decide (t506 < 0))).bind fun bt557 => (some (bt557.1, bt557.2.1, bt557.2.2)))))))))))))))) = some (r1, r2, r3) := by rw [if_neg (show ¬ (false = true) by decide)] at H; exact H
    clear H
    have H := H1
    clear H1
    replace H := bi_ H; obtain ⟨t512, A26, H⟩ := H
    (try dsimp only at H)
    replace H := bi_ H; obtain ⟨t513, A27, H⟩ := H
    (try dsimp only at H)
    replace H := bi_ H; obtain ⟨t516, A28, H⟩ := H
    (try dsimp only at H)
    replace H := bi_ H; obtain ⟨t519, A29, H⟩ := H
    (try dsimp only at H)
    replace H := bi_ H; obtain ⟨t520, A30, H⟩ := H
    (try dsimp only at H)
    replace H := bi_ H; obtain ⟨t523, A31, H⟩ := H
    (try dsimp only at H)
    replace H := bi_ H; obtain ⟨t526, A32, H⟩ := H
    (try dsimp only at H)
    replace H := bi_ H; obtain ⟨t529, A33, H⟩ := H
    (try dsimp only at H)
    by_cases c34 : ((decide (t504 < 0)) == (decide (t506 < 0))) = true
    · rw [if_pos c34] at H
      have c34b0 : ((decide (t504 < 0)) == (decide (t506 < 0))) = true := c34
      (try (have c34b1 : decide ((decide (t504 < 0)) = (decide (t506 < 0))) = true := by simpa using c34))
      (try (have c34b2 : ((decide (t504 < 0)) == (decide (t506 < 0))) = true := by simpa using c34))
      clear c34
      replace H := bi_ H; obtain ⟨t532, A35, H⟩ := H
      (try dsimp only at H)
      replace H := bi_ H; obtain ⟨t535, A36, H⟩ := H
      (try dsimp only at H)
      replace H := bi_ H; obtain ⟨⟨t538, t539, t540⟩, A37, H⟩ := H
      (try dsimp only at H)
      simp only [Option.some.injEq, Prod.mk.injEq] at H
      obtain ⟨rfl, rfl, rfl⟩ := H
      go_enter Tryd.func8, Tryd.ntmps8
      try go_wp2_with (first | ((with_reducible refine gd 2 rfl ?_); refine bx_ 2 23 #[.int .i64 a0_0, .int .i64 a0_1] rfl rfl ?_; intro gb501 hg w38 BK501 hb; have GE501 := bz HB hg; replace HB := bs HB hb; clear hb hg) | ((with_reducible refine gd 3 rfl ?_); refine bx_ 3 23 #[.int .i64 a1_0, .int .i64 a1_1] rfl rfl ?_; intro gb502 hg w39 BK502 hb; have GE502 := bz HB hg; have ⟨NB501_502, NB502_501⟩ := nb BK501 hg; replace BK501 := bb BK501 hb; replace HB := bs HB hb; clear hb hg) | ((with_reducible refine gd 4 rfl ?_); refine bx_ 4 23 #[.int .i64 0, .int .i64 0] rfl rfl ?_; intro gb503 hg w40 BK503 hb; have GE503 := bz HB hg; have ⟨NB501_503, NB503_501⟩ := nb BK501 hg; have ⟨NB502_503, NB503_502⟩ := nb BK502 hg; replace BK501 := bb BK501 hb; replace BK502 := bb BK502 hb; replace HB := bs HB hb; clear hb hg; have hnb41 := nn NB501_502; have hnb42 := nn NB501_503; have hcz43 := X.k2 BK501) | ((with_reducible refine gc 16 rfl ?_); refine gm_ (some 10) rfl rfl Tryd.func16 (carrefourref02_Norm.calls _ _ _ _ _ _ A3.out) ag ?_; intro w44 hb; replace BK501 := bb BK501 hb; replace BK502 := bb BK502 hb; replace BK503 := bb BK503 hb; replace HB := bs HB hb; (try clear hb); have hcz45 := X.k2 BK501; have hnb46 := nn NB502_503; have hcz47 := X.k2 BK502) | ((with_reducible refine gc 16 rfl ?_); refine gm_ (some 12) rfl rfl Tryd.func16 (carrefourref02_Norm.calls _ _ _ _ _ _ A4.out) ag ?_; intro w48 hb; replace BK501 := bp_ #[.int .i64 t504, .int .i64 t505] BK501 hb; replace BK502 := bb BK502 hb; replace BK503 := bb BK503 hb; replace HB := bs HB hb; (try clear hb); have hcz49 := X.k2 BK502; have hcz50 := X.k2 BK501) | ((with_reducible refine gc 18 rfl ?_); refine gm_ (some 15) rfl rfl Tryd.func18 (carrefourref02_few.calls _ _ _ _ _ _ A5.out) ag ?_; intro w51 hb; replace BK501 := bb BK501 hb; replace BK502 := bp_ #[.int .i64 t506, .int .i64 t507] BK502 hb; replace BK503 := bb BK503 hb; replace HB := bs HB hb; (try clear hb)))
      replace BK501 := Aside0.mk (blk_drew BK501.out)
      replace BK502 := Aside0.mk (blk_drew BK502.out)
      replace BK503 := Aside0.mk (blk_drew BK503.out)
      replace HB := Aside0.mk (below_drew1 HB.out)
      refine start_ (n := 9) (S := fun w' => c_ w' gb501 0 (.int .i64 t504) ∧ c_ w' gb501 1 (.int .i64 t505) ∧ c_ w' gb502 0 (.int .i64 t506) ∧ c_ w' gb502 1 (.int .i64 t507)) (ds := []) (m_ 9 0) (by kernel_rfl) rfl rfl ⟨ct BK501 0, ct BK501 1, ct BK502 0, ct BK502 1⟩ (fun hHeld => ?_); refine with_tabW carrefourref02_Add.tab5 carrefourref02_Add.bits5 (fun HT_ HW_ => ?_)
      generalize w51.drew = w52 at BK501 BK502 BK503 HB hHeld ⊢
      refine pu_ 0 (some 35) (m_ 9 1) rfl rfl (ao HT_) ?_
      refine pu_ 3 (some 38) (m_ 9 9) rfl rfl (ao HT_) ?_
      refine tk_ 1 (some 36) (m_ 9 11) rfl rfl (tw HT_ HW_) hHeld ?_
      refine tk_ 4 (some 39) (m_ 9 27) rfl rfl (tw HT_ HW_) hHeld ?_
      refine pu_ 5 (some 40) (m_ 9 59) rfl rfl (ao HT_) ?_
      refine o1_ 2 (some 37) (m_ 9 63) rfl rfl (oo HT_) (fun K hK => ?_)
      refine gs_ rfl Tryd.func22 (carrefourref01_Size.calls _ _ _ A26.out) ag ?_
      rintro w' ⟨nd, rfl⟩
      refine hK.out _ _ ⟨ct BK501 0, ct BK501 1, ct BK502 0, ct BK502 1⟩ (fun hHeld => ?_)
      clear hK K
      refine nr_ (some 37) ?_
      refine o1_ 6 (some 41) (m_ 9 127) rfl rfl (oo HT_) (fun K hK => ?_)
      refine goes_ Tryd.func21 (by kernel_rfl) rfl #[.int .u64 t512, .int .u64 (IntKind.u64.wrap (t507))] (by rfl) rfl rfl ag ?_
      with_reducible refine (carrefourref01_Times.calls _ _ (IntKind.u64.wrap (t507)) _ _ A27.out).mono ?_
      rintro e w53 ⟨v514, rfl, ho0, hb⟩
      refine ⟨_, rfl, ?_⟩
      have HO515 := Aside0.mk (Kd.R_lower ho0 (below_size (bf HB)))
      replace BK501 := bb BK501 hb
      replace BK502 := bb BK502 hb
      replace BK503 := bb BK503 hb
      replace HB := bs HB hb
      (try clear hb); (try clear ho0)
      obtain ⟨Ao54, co54, eo54⟩ := Kd.R_slice HO515.out
      (first | subst eo54 | (injection eo54 with f1_ f2_ f3_; have f4_ := f1_.symm; have f5_ := f3_.symm; clear f1_ f2_ f3_; subst f4_; subst f5_))
      refine hK.out _ _ ⟨ct BK501 0, ct BK501 1, ct BK502 0, ct BK502 1⟩ (fun hHeld => ?_)
      clear hK K
      refine nr_ (some 41) ?_
      refine o1_ 7 (some 42) (m_ 9 255) rfl rfl (oo HT_) (fun K hK => ?_)
      refine goes_ Tryd.func20 (by kernel_rfl) rfl #[.slice Ao54 t513.length co54] (by rfl) rfl rfl ag ?_
      with_reducible refine (carrefourref02_trim.calls _ _ _ _ _ _ ?side1 ?side2 A28.out).mono ?_
      (case side1 => exact rc HO515)
      (case side2 => exact (Kd.R_reads' HO515.out).2.1)
      rintro e w55 ⟨v517, rfl, ho0, hb⟩
      refine ⟨_, rfl, ?_⟩
      have HO518 := Aside0.mk (Kd.R_lower (Kd.R_new' ho0 (rl HO515)) (below_size (bf HB)))
      replace HO515 := re_ HO515 (Kd.R_base ho0) hb
      replace BK501 := bb BK501 hb
      replace BK502 := bb BK502 hb
      replace BK503 := bb BK503 hb
      replace HB := bs HB hb
      (try clear hb); (try clear ho0)
      refine hK.out _ _ ⟨ct BK501 0, ct BK501 1, ct BK502 0, ct BK502 1⟩ (fun hHeld => ?_)
      clear hK K
      refine nr_ (some 42) ?_
      refine pu_ 8 (some 6) (m_ 9 511) rfl rfl (ao HT_) ?_
      refine done_ (done_of HT_.out (by kernel_rfl)) ?_
      try go_wp2
      replace HO515 := Aside0.mk (Kd.R_drew HO515.out)
      replace HO518 := Aside0.mk (Kd.R_drew HO518.out)
      replace BK501 := Aside0.mk (blk_drew BK501.out)
      replace BK502 := Aside0.mk (blk_drew BK502.out)
      replace BK503 := Aside0.mk (blk_drew BK503.out)
      replace HB := Aside0.mk (below_drew1 HB.out)
      refine start_ (n := 9) (S := fun w' => c_ w' gb502 0 (.int .i64 t506) ∧ c_ w' gb502 1 (.int .i64 t507) ∧ c_ w' gb501 0 (.int .i64 t504) ∧ c_ w' gb501 1 (.int .i64 t505)) (ds := []) (m_ 9 0) (by kernel_rfl) rfl rfl ⟨ct BK502 0, ct BK502 1, ct BK501 0, ct BK501 1⟩ (fun hHeld => ?_); refine with_tabW carrefourref02_Add.tab6 carrefourref02_Add.bits6 (fun HT_ HW_ => ?_)
      generalize w55.drew = w56 at HO515 HO518 BK501 BK502 BK503 HB hHeld ⊢
      refine pu_ 0 (some 43) (m_ 9 1) rfl rfl (ao HT_) ?_
      refine pu_ 3 (some 46) (m_ 9 9) rfl rfl (ao HT_) ?_
      refine tk_ 1 (some 44) (m_ 9 11) rfl rfl (tw HT_ HW_) hHeld ?_
      refine tk_ 4 (some 47) (m_ 9 27) rfl rfl (tw HT_ HW_) hHeld ?_
      refine pu_ 5 (some 48) (m_ 9 59) rfl rfl (ao HT_) ?_
      refine o1_ 2 (some 45) (m_ 9 63) rfl rfl (oo HT_) (fun K hK => ?_)
      refine gs_ rfl Tryd.func22 (carrefourref01_Size.calls _ _ _ A29.out) ag ?_
      rintro w' ⟨nd, rfl⟩
      refine hK.out _ _ ⟨ct BK502 0, ct BK502 1, ct BK501 0, ct BK501 1⟩ (fun hHeld => ?_)
      clear hK K
      refine nr_ (some 45) ?_
      refine o1_ 6 (some 49) (m_ 9 127) rfl rfl (oo HT_) (fun K hK => ?_)
      refine goes_ Tryd.func21 (by kernel_rfl) rfl #[.int .u64 t519, .int .u64 (IntKind.u64.wrap (t505))] (by rfl) rfl rfl ag ?_
      with_reducible refine (carrefourref01_Times.calls _ _ (IntKind.u64.wrap (t505)) _ _ A30.out).mono ?_
      rintro e w57 ⟨v521, rfl, ho0, hb⟩
      refine ⟨_, rfl, ?_⟩
      have HO522 := Aside0.mk (Kd.R_lower (Kd.R_new' (Kd.R_new' ho0 (rl HO515)) (rl HO518)) (below_size (bf HB)))
      replace HO515 := re_ HO515 (Kd.R_base ho0) hb
      replace HO518 := re_ HO518 (Kd.R_base ho0) hb
      replace BK501 := bb BK501 hb
      replace BK502 := bb BK502 hb
      replace BK503 := bb BK503 hb
      replace HB := bs HB hb
      (try clear hb); (try clear ho0)
      obtain ⟨Ao58, co58, eo58⟩ := Kd.R_slice HO522.out
      (first | subst eo58 | (injection eo58 with f1_ f2_ f3_; have f4_ := f1_.symm; have f5_ := f3_.symm; clear f1_ f2_ f3_; subst f4_; subst f5_))
      refine hK.out _ _ ⟨ct BK502 0, ct BK502 1, ct BK501 0, ct BK501 1⟩ (fun hHeld => ?_)
      clear hK K
      refine nr_ (some 49) ?_
      refine o1_ 7 (some 50) (m_ 9 255) rfl rfl (oo HT_) (fun K hK => ?_)
      refine goes_ Tryd.func20 (by kernel_rfl) rfl #[.slice Ao58 t520.length co58] (by rfl) rfl rfl ag ?_
      with_reducible refine (carrefourref02_trim.calls _ _ _ _ _ _ ?side1 ?side2 A31.out).mono ?_
      (case side1 => exact rc HO522)
      (case side2 => exact (Kd.R_reads' HO522.out).2.1)
      rintro e w59 ⟨v524, rfl, ho0, hb⟩
      refine ⟨_, rfl, ?_⟩
      have HO525 := Aside0.mk (Kd.R_lower (Kd.R_new' (Kd.R_new' (Kd.R_new' ho0 (rl HO515)) (rl HO518)) (rl HO522)) (below_size (bf HB)))
      replace HO515 := re_ HO515 (Kd.R_base ho0) hb
      replace HO518 := re_ HO518 (Kd.R_base ho0) hb
      replace HO522 := re_ HO522 (Kd.R_base ho0) hb
      replace BK501 := bb BK501 hb
      replace BK502 := bb BK502 hb
      replace BK503 := bb BK503 hb
      replace HB := bs HB hb
      (try clear hb); (try clear ho0)
      refine hK.out _ _ ⟨ct BK502 0, ct BK502 1, ct BK501 0, ct BK501 1⟩ (fun hHeld => ?_)
      clear hK K
      refine nr_ (some 50) ?_
      refine pu_ 8 (some 7) (m_ 9 511) rfl rfl (ao HT_) ?_
      refine done_ (done_of HT_.out (by kernel_rfl)) ?_
      have hcz60 := X.k2 BK501
      have hcz61 := X.k2 BK502
      try go_wp2_with (first | ((with_reducible refine gc 21 rfl ?_); refine gl_ (some 57) rfl rfl Tryd.func21 ((carrefourref01_Times.calls _ (IntKind.u64.wrap (t505)) (IntKind.u64.wrap (t507)) _ _ A32.out).mono ?_) ag; rintro e w62 ⟨v527, rfl, ho0, hb⟩; refine ⟨_, rfl, ?_⟩; have HO528 := Aside0.mk (Kd.R_lower (Kd.R_new' (Kd.R_new' (Kd.R_new' (Kd.R_new' ho0 (rl HO515)) (rl HO518)) (rl HO522)) (rl HO525)) (below_size (bf HB))); replace HO515 := re_ HO515 (Kd.R_base ho0) hb; replace HO518 := re_ HO518 (Kd.R_base ho0) hb; replace HO522 := re_ HO522 (Kd.R_base ho0) hb; replace HO525 := re_ HO525 (Kd.R_base ho0) hb; replace BK501 := bb BK501 hb; replace BK502 := bb BK502 hb; replace BK503 := bb BK503 hb; replace HB := bs HB hb; (try clear hb); (try clear ho0); obtain ⟨Ao63, co63, eo63⟩ := Kd.R_slice HO528.out; subst eo63) | ((with_reducible refine gc 20 rfl ?_); refine gl_ (some 58) rfl rfl Tryd.func20 ((carrefourref02_trim.calls _ _ _ _ _ _ ?side1 ?side2 A33.out).mono ?_) ag; (case side1 => exact rc HO528); (case side2 => exact (Kd.R_reads' HO528.out).2.1); rintro e w64 ⟨v530, rfl, ho0, hb⟩; refine ⟨_, rfl, ?_⟩; have HO531 := Aside0.mk (Kd.R_lower (Kd.R_new' (Kd.R_new' (Kd.R_new' (Kd.R_new' (Kd.R_new' ho0 (rl HO515)) (rl HO518)) (rl HO522)) (rl HO525)) (rl HO528)) (below_size (bf HB))); replace HO515 := re_ HO515 (Kd.R_base ho0) hb; replace HO518 := re_ HO518 (Kd.R_base ho0) hb; replace HO522 := re_ HO522 (Kd.R_base ho0) hb; replace HO525 := re_ HO525 (Kd.R_base ho0) hb; replace HO528 := re_ HO528 (Kd.R_base ho0) hb; replace BK501 := bb BK501 hb; replace BK502 := bb BK502 hb; replace BK503 := bb BK503 hb; replace HB := bs HB hb; (try clear hb); (try clear ho0); have hcz65 := X.k2 BK501; have hcz66 := X.k2 BK502))
      replace HO515 := Aside0.mk (Kd.R_drew HO515.out)
      replace HO518 := Aside0.mk (Kd.R_drew HO518.out)
      replace HO522 := Aside0.mk (Kd.R_drew HO522.out)
      replace HO525 := Aside0.mk (Kd.R_drew HO525.out)
      replace HO528 := Aside0.mk (Kd.R_drew HO528.out)
      replace HO531 := Aside0.mk (Kd.R_drew HO531.out)
      replace BK501 := Aside0.mk (blk_drew BK501.out)
      replace BK502 := Aside0.mk (blk_drew BK502.out)
      replace BK503 := Aside0.mk (blk_drew BK503.out)
      replace HB := Aside0.mk (below_drew1 HB.out)
      obtain ⟨Ao68, co68, eo68⟩ := Kd.R_slice HO518.out
      (first | subst eo68 | (injection eo68 with f1_ f2_ f3_; have f4_ := f1_.symm; have f5_ := f3_.symm; clear f1_ f2_ f3_; subst f4_; subst f5_))
      obtain ⟨Ao69, co69, eo69⟩ := Kd.R_slice HO525.out
      (first | subst eo69 | (injection eo69 with f1_ f2_ f3_; have f4_ := f1_.symm; have f5_ := f3_.symm; clear f1_ f2_ f3_; subst f4_; subst f5_))
      refine start_ (n := 13) (S := fun w' => c_ w' gb501 0 (.int .i64 t504) ∧ c_ w' gb501 1 (.int .i64 t505)) (ds := []) (m_ 13 0) (by kernel_rfl) rfl rfl ⟨ct BK501 0, ct BK501 1⟩ (fun hHeld => ?_); refine with_tabW carrefourref02_Add.tab9 carrefourref02_Add.bits9 (fun HT_ HW_ => ?_)
      generalize w64.drew = w67 at HO515 HO518 HO522 HO525 HO528 HO531 BK501 BK502 BK503 HB hHeld ⊢
      refine pu_ 0 (some 66) (m_ 13 1) rfl rfl (ao HT_) ?_
      refine pu_ 1 (some 67) (m_ 13 3) rfl rfl (ao HT_) ?_
      refine pu_ 4 (some 70) (m_ 13 19) rfl rfl (ao HT_) ?_
      refine pu_ 5 (some 71) (m_ 13 51) rfl rfl (ao HT_) ?_
      refine tk_ 6 (some 72) (m_ 13 115) rfl rfl (tw HT_ HW_) hHeld ?_
      refine pu_ 7 (some 73) (m_ 13 243) rfl rfl (ao HT_) ?_
      refine o1_ 2 (some 68) (m_ 13 247) rfl rfl (oo HT_) (fun K hK => ?_)
      refine goes_ Tryd.func24 (by kernel_rfl) rfl #[.slice Ao68 t516.length co68, .slice Ao69 t523.length co69] (by rfl) rfl rfl ag ?_
      with_reducible refine (carrefourref01_Plus.calls _ _ _ _ _ _ _ _ _ ?side1 ?side2 ?side3 ?side4 A35.out).mono ?_
      (case side1 => exact rc HO518)
      (case side2 => exact (Kd.R_reads' HO518.out).2.1)
      (case side3 => exact rc HO525)
      (case side4 => exact (Kd.R_reads' HO525.out).2.1)
      rintro e w70 ⟨v533, rfl, ho0, hb⟩
      refine ⟨_, rfl, ?_⟩
      have HO534 := Aside0.mk (Kd.R_lower (Kd.R_new' (Kd.R_new' (Kd.R_new' (Kd.R_new' (Kd.R_new' (Kd.R_new' ho0 (rl HO515)) (rl HO518)) (rl HO522)) (rl HO525)) (rl HO528)) (rl HO531)) (below_size (bf HB)))
      replace HO515 := re_ HO515 (Kd.R_base ho0) hb
      replace HO518 := re_ HO518 (Kd.R_base ho0) hb
      replace HO522 := re_ HO522 (Kd.R_base ho0) hb
      replace HO525 := re_ HO525 (Kd.R_base ho0) hb
      replace HO528 := re_ HO528 (Kd.R_base ho0) hb
      replace HO531 := re_ HO531 (Kd.R_base ho0) hb
      replace BK501 := bb BK501 hb
      replace BK502 := bb BK502 hb
      replace BK503 := bb BK503 hb
      replace HB := bs HB hb
      (try clear hb); (try clear ho0)
      obtain ⟨Ao71, co71, eo71⟩ := Kd.R_slice HO534.out
      (first | subst eo71 | (injection eo71 with f1_ f2_ f3_; have f4_ := f1_.symm; have f5_ := f3_.symm; clear f1_ f2_ f3_; subst f4_; subst f5_))
      refine hK.out _ _ ⟨ct BK501 0, ct BK501 1⟩ (fun hHeld => ?_)
      clear hK K
      refine nr_ (some 68) ?_
      refine o1_ 3 (some 69) (m_ 13 255) rfl rfl (oo HT_) (fun K hK => ?_)
      refine goes_ Tryd.func20 (by kernel_rfl) rfl #[.slice Ao71 t532.length co71] (by rfl) rfl rfl ag ?_
      with_reducible refine (carrefourref02_trim.calls _ _ _ _ _ _ ?side1 ?side2 A36.out).mono ?_
      (case side1 => exact rc HO534)
      (case side2 => exact (Kd.R_reads' HO534.out).2.1)
      rintro e w72 ⟨v536, rfl, ho0, hb⟩
      refine ⟨_, rfl, ?_⟩
      have HO537 := Aside0.mk (Kd.R_lower (Kd.R_new' (Kd.R_new' (Kd.R_new' (Kd.R_new' (Kd.R_new' (Kd.R_new' (Kd.R_new' ho0 (rl HO515)) (rl HO518)) (rl HO522)) (rl HO525)) (rl HO528)) (rl HO531)) (rl HO534)) (below_size (bf HB)))
      replace HO515 := re_ HO515 (Kd.R_base ho0) hb
      replace HO518 := re_ HO518 (Kd.R_base ho0) hb
      replace HO522 := re_ HO522 (Kd.R_base ho0) hb
      replace HO525 := re_ HO525 (Kd.R_base ho0) hb
      replace HO528 := re_ HO528 (Kd.R_base ho0) hb
      replace HO531 := re_ HO531 (Kd.R_base ho0) hb
      replace HO534 := re_ HO534 (Kd.R_base ho0) hb
      replace BK501 := bb BK501 hb
      replace BK502 := bb BK502 hb
      replace BK503 := bb BK503 hb
      replace HB := bs HB hb
      (try clear hb); (try clear ho0)
      obtain ⟨Ao73, co73, eo73⟩ := Kd.R_slice HO537.out
      (first | subst eo73 | (injection eo73 with f1_ f2_ f3_; have f4_ := f1_.symm; have f5_ := f3_.symm; clear f1_ f2_ f3_; subst f4_; subst f5_))
      obtain ⟨Ao74, co74, eo74⟩ := Kd.R_slice HO531.out
      (first | subst eo74 | (injection eo74 with f1_ f2_ f3_; have f4_ := f1_.symm; have f5_ := f3_.symm; clear f1_ f2_ f3_; subst f4_; subst f5_))
      refine hK.out _ _ ⟨ct BK501 0, ct BK501 1⟩ (fun hHeld => ?_)
      clear hK K
      refine nr_ (some 69) ?_
      refine o1_ 8 (some 74) (m_ 13 511) rfl rfl (oo HT_) (fun K hK => ?_)
      refine gs_ rfl Tryd.func23 (carrefourref02_lowest.calls _ (fun k_ => some k_ = (.slice Ao73 t535.length co73 : Value).ownBlock) _ _ _ (fun k_ => some k_ = (.slice Ao74 t529.length co74 : Value).ownBlock) _ _ _ (decide (t504 < 0)) _ _ _ _ ?side1 ?side2 A37.out) ag ?_
      (case side1 => exact Kd.R_V (Kd.R_tight rfl (Kd.R_types (Kd.R_types (Kd.R_types (HO537.out) BK501.out (by decide)) BK502.out (by decide)) BK503.out (by decide))))
      (case side2 => exact Kd.R_V (Kd.R_tight rfl (Kd.R_types (Kd.R_types (Kd.R_types (HO531.out) BK501.out (by decide)) BK502.out (by decide)) BK503.out (by decide))))
      intro w75 hb
      replace HO515 := rb HO515 hb
      replace HO518 := rb HO518 hb
      replace HO522 := rb HO522 hb
      replace HO525 := rb HO525 hb
      replace HO528 := rb HO528 hb
      replace HO531 := rb HO531 hb
      replace HO534 := rb HO534 hb
      replace HO537 := rb HO537 hb
      replace BK501 := bb BK501 hb
      replace BK503 := bb BK503 hb
      replace HB := bs HB hb
      (try clear hb)
      refine hK.out _ _ ⟨ct BK501 0, ct BK501 1⟩ (fun hHeld => ?_)
      clear hK K
      refine nr_ (some 74) ?_
      refine pu_ 9 (some 75) (m_ 13 1023) rfl rfl (ao HT_) ?_
      refine pu_ 10 (some 76) (m_ 13 2047) rfl rfl (ao HT_) ?_
      refine o1_ 11 (none) (m_ 13 4095) rfl rfl (oo HT_) (fun K hK => ?_)
      have hs76 : c_ w75 gb503 0 (.int .i64 0) := ct BK503 0
      have hfs76 := blk_frozen BK503.out 0
      have hns76_0 := NB501_503.out
      have hns76_1 := NB502_503.out
      have hms76_0 := NB503_501.out
      have hms76_1 := NB503_502.out
      have hs77 : c_ w75 gb503 1 (.int .i64 0) := ct BK503 1
      have hfs77 := blk_frozen BK503.out 1
      have hns77_0 := NB501_503.out
      have hns77_1 := NB502_503.out
      have hms77_0 := NB503_501.out
      have hms77_1 := NB503_502.out
      refine skip_ (w1 := ?_) (by rfl) rfl ?_ ?_
      rotate_left
      · go_simp
        rfl
      refine hK.out _ _ ⟨((cell_far (p := ⟨gb503, _, none⟩) NB501_503.out _).trans (((cell_far (p := ⟨gb503, _, none⟩) NB501_503.out _).trans (hHeld.1)))), ((cell_far (p := ⟨gb503, _, none⟩) NB501_503.out _).trans (((cell_far (p := ⟨gb503, _, none⟩) NB501_503.out _).trans (hHeld.2))))⟩ (fun hHeld => ?_)
      clear hK K
      refine pu_ 12 (some 5) (m_ 13 8191) rfl rfl (ao HT_) ?_
      refine done_ (done_of HT_.out (by kernel_rfl)) ?_
      try go_wp2
      refine bodyPost_ret (results_ct rfl _ _ gb503 23 #[.int .i64 t538, .int .i64 t539] (0, 0) _ rfl (br_ BK503) Tryd.underlying23 rfl (by kernel_rfl)) rfl ?_
      exact ⟨ae, bf HB⟩
    · rw [if_neg c34] at H
      have c34b0 : ((decide (t504 < 0)) == (decide (t506 < 0))) = false := by simpa using c34
      (try (have c34b1 : decide ((decide (t504 < 0)) = (decide (t506 < 0))) = false := by simpa using c34))
      (try (have c34b2 : ((decide (t504 < 0)) == (decide (t506 < 0))) = false := by simpa using c34))
      (try (have c34b3 : ¬ ((decide (t504 < 0)) = (decide (t506 < 0))) := by simpa using c34))
      clear c34
      replace H := bi_ H; obtain ⟨t541, A78, H⟩ := H
      (try dsimp only at H)
      by_cases c79 : t541 ≥ 0
      · rw [if_pos c79] at H
        have c79b0 : decide (0 ≤ t541) = true := decide_eq_true c79
        clear c79
        replace H := bi_ H; obtain ⟨t542, A80, H⟩ := H
        (try dsimp only at H)
        replace H := bi_ H; obtain ⟨t545, A81, H⟩ := H
        (try dsimp only at H)
        replace H := bi_ H; obtain ⟨⟨t548, t549, t550⟩, A82, H⟩ := H
        (try dsimp only at H)
        simp only [Option.some.injEq, Prod.mk.injEq] at H
        obtain ⟨rfl, rfl, rfl⟩ := H
        go_enter Tryd.func8, Tryd.ntmps8
        try go_wp2_with (first | ((with_reducible refine gd 2 rfl ?_); refine bx_ 2 23 #[.int .i64 a0_0, .int .i64 a0_1] rfl rfl ?_; intro gb501 hg w83 BK501 hb; have GE501 := bz HB hg; replace HB := bs HB hb; clear hb hg) | ((with_reducible refine gd 3 rfl ?_); refine bx_ 3 23 #[.int .i64 a1_0, .int .i64 a1_1] rfl rfl ?_; intro gb502 hg w84 BK502 hb; have GE502 := bz HB hg; have ⟨NB501_502, NB502_501⟩ := nb BK501 hg; replace BK501 := bb BK501 hb; replace HB := bs HB hb; clear hb hg) | ((with_reducible refine gd 4 rfl ?_); refine bx_ 4 23 #[.int .i64 0, .int .i64 0] rfl rfl ?_; intro gb503 hg w85 BK503 hb; have GE503 := bz HB hg; have ⟨NB501_503, NB503_501⟩ := nb BK501 hg; have ⟨NB502_503, NB503_502⟩ := nb BK502 hg; replace BK501 := bb BK501 hb; replace BK502 := bb BK502 hb; replace HB := bs HB hb; clear hb hg; have hnb86 := nn NB501_502; have hnb87 := nn NB501_503; have hcz88 := X.k2 BK501) | ((with_reducible refine gc 16 rfl ?_); refine gm_ (some 10) rfl rfl Tryd.func16 (carrefourref02_Norm.calls _ _ _ _ _ _ A3.out) ag ?_; intro w89 hb; replace BK501 := bb BK501 hb; replace BK502 := bb BK502 hb; replace BK503 := bb BK503 hb; replace HB := bs HB hb; (try clear hb); have hcz90 := X.k2 BK501; have hnb91 := nn NB502_503; have hcz92 := X.k2 BK502) | ((with_reducible refine gc 16 rfl ?_); refine gm_ (some 12) rfl rfl Tryd.func16 (carrefourref02_Norm.calls _ _ _ _ _ _ A4.out) ag ?_; intro w93 hb; replace BK501 := bp_ #[.int .i64 t504, .int .i64 t505] BK501 hb; replace BK502 := bb BK502 hb; replace BK503 := bb BK503 hb; replace HB := bs HB hb; (try clear hb); have hcz94 := X.k2 BK502; have hcz95 := X.k2 BK501) | ((with_reducible refine gc 18 rfl ?_); refine gm_ (some 15) rfl rfl Tryd.func18 (carrefourref02_few.calls _ _ _ _ _ _ A5.out) ag ?_; intro w96 hb; replace BK501 := bb BK501 hb; replace BK502 := bp_ #[.int .i64 t506, .int .i64 t507] BK502 hb; replace BK503 := bb BK503 hb; replace HB := bs HB hb; (try clear hb)))
        replace BK501 := Aside0.mk (blk_drew BK501.out)
        replace BK502 := Aside0.mk (blk_drew BK502.out)
        replace BK503 := Aside0.mk (blk_drew BK503.out)
        replace HB := Aside0.mk (below_drew1 HB.out)
        refine start_ (n := 9) (S := fun w' => c_ w' gb501 0 (.int .i64 t504) ∧ c_ w' gb501 1 (.int .i64 t505) ∧ c_ w' gb502 0 (.int .i64 t506) ∧ c_ w' gb502 1 (.int .i64 t507)) (ds := []) (m_ 9 0) (by kernel_rfl) rfl rfl ⟨ct BK501 0, ct BK501 1, ct BK502 0, ct BK502 1⟩ (fun hHeld => ?_); refine with_tabW carrefourref02_Add.tab5 carrefourref02_Add.bits5 (fun HT_ HW_ => ?_)
        generalize w96.drew = w97 at BK501 BK502 BK503 HB hHeld ⊢
        refine pu_ 0 (some 35) (m_ 9 1) rfl rfl (ao HT_) ?_
        refine pu_ 3 (some 38) (m_ 9 9) rfl rfl (ao HT_) ?_
        refine tk_ 1 (some 36) (m_ 9 11) rfl rfl (tw HT_ HW_) hHeld ?_
        refine tk_ 4 (some 39) (m_ 9 27) rfl rfl (tw HT_ HW_) hHeld ?_
        refine pu_ 5 (some 40) (m_ 9 59) rfl rfl (ao HT_) ?_
        refine o1_ 2 (some 37) (m_ 9 63) rfl rfl (oo HT_) (fun K hK => ?_)
        refine gs_ rfl Tryd.func22 (carrefourref01_Size.calls _ _ _ A26.out) ag ?_
        rintro w' ⟨nd, rfl⟩
        refine hK.out _ _ ⟨ct BK501 0, ct BK501 1, ct BK502 0, ct BK502 1⟩ (fun hHeld => ?_)
        clear hK K
        refine nr_ (some 37) ?_
        refine o1_ 6 (some 41) (m_ 9 127) rfl rfl (oo HT_) (fun K hK => ?_)
        refine goes_ Tryd.func21 (by kernel_rfl) rfl #[.int .u64 t512, .int .u64 (IntKind.u64.wrap (t507))] (by rfl) rfl rfl ag ?_
        with_reducible refine (carrefourref01_Times.calls _ _ (IntKind.u64.wrap (t507)) _ _ A27.out).mono ?_
        rintro e w98 ⟨v514, rfl, ho0, hb⟩
        refine ⟨_, rfl, ?_⟩
        have HO515 := Aside0.mk (Kd.R_lower ho0 (below_size (bf HB)))
        replace BK501 := bb BK501 hb
        replace BK502 := bb BK502 hb
        replace BK503 := bb BK503 hb
        replace HB := bs HB hb
        (try clear hb); (try clear ho0)
        obtain ⟨Ao99, co99, eo99⟩ := Kd.R_slice HO515.out
        (first | subst eo99 | (injection eo99 with f1_ f2_ f3_; have f4_ := f1_.symm; have f5_ := f3_.symm; clear f1_ f2_ f3_; subst f4_; subst f5_))
        refine hK.out _ _ ⟨ct BK501 0, ct BK501 1, ct BK502 0, ct BK502 1⟩ (fun hHeld => ?_)
        clear hK K
        refine nr_ (some 41) ?_
        refine o1_ 7 (some 42) (m_ 9 255) rfl rfl (oo HT_) (fun K hK => ?_)
        refine goes_ Tryd.func20 (by kernel_rfl) rfl #[.slice Ao99 t513.length co99] (by rfl) rfl rfl ag ?_
        with_reducible refine (carrefourref02_trim.calls _ _ _ _ _ _ ?side1 ?side2 A28.out).mono ?_
        (case side1 => exact rc HO515)
        (case side2 => exact (Kd.R_reads' HO515.out).2.1)
        rintro e w100 ⟨v517, rfl, ho0, hb⟩
        refine ⟨_, rfl, ?_⟩
        have HO518 := Aside0.mk (Kd.R_lower (Kd.R_new' ho0 (rl HO515)) (below_size (bf HB)))
        replace HO515 := re_ HO515 (Kd.R_base ho0) hb
        replace BK501 := bb BK501 hb
        replace BK502 := bb BK502 hb
        replace BK503 := bb BK503 hb
        replace HB := bs HB hb
        (try clear hb); (try clear ho0)
        refine hK.out _ _ ⟨ct BK501 0, ct BK501 1, ct BK502 0, ct BK502 1⟩ (fun hHeld => ?_)
        clear hK K
        refine nr_ (some 42) ?_
        refine pu_ 8 (some 6) (m_ 9 511) rfl rfl (ao HT_) ?_
        refine done_ (done_of HT_.out (by kernel_rfl)) ?_
        try go_wp2
        replace HO515 := Aside0.mk (Kd.R_drew HO515.out)
        replace HO518 := Aside0.mk (Kd.R_drew HO518.out)
        replace BK501 := Aside0.mk (blk_drew BK501.out)
        replace BK502 := Aside0.mk (blk_drew BK502.out)
        replace BK503 := Aside0.mk (blk_drew BK503.out)
        replace HB := Aside0.mk (below_drew1 HB.out)
        refine start_ (n := 9) (S := fun w' => c_ w' gb502 0 (.int .i64 t506) ∧ c_ w' gb502 1 (.int .i64 t507) ∧ c_ w' gb501 0 (.int .i64 t504) ∧ c_ w' gb501 1 (.int .i64 t505)) (ds := []) (m_ 9 0) (by kernel_rfl) rfl rfl ⟨ct BK502 0, ct BK502 1, ct BK501 0, ct BK501 1⟩ (fun hHeld => ?_); refine with_tabW carrefourref02_Add.tab6 carrefourref02_Add.bits6 (fun HT_ HW_ => ?_)
        generalize w100.drew = w101 at HO515 HO518 BK501 BK502 BK503 HB hHeld ⊢
        refine pu_ 0 (some 43) (m_ 9 1) rfl rfl (ao HT_) ?_
        refine pu_ 3 (some 46) (m_ 9 9) rfl rfl (ao HT_) ?_
        refine tk_ 1 (some 44) (m_ 9 11) rfl rfl (tw HT_ HW_) hHeld ?_
        refine tk_ 4 (some 47) (m_ 9 27) rfl rfl (tw HT_ HW_) hHeld ?_
        refine pu_ 5 (some 48) (m_ 9 59) rfl rfl (ao HT_) ?_
        refine o1_ 2 (some 45) (m_ 9 63) rfl rfl (oo HT_) (fun K hK => ?_)
        refine gs_ rfl Tryd.func22 (carrefourref01_Size.calls _ _ _ A29.out) ag ?_
        rintro w' ⟨nd, rfl⟩
        refine hK.out _ _ ⟨ct BK502 0, ct BK502 1, ct BK501 0, ct BK501 1⟩ (fun hHeld => ?_)
        clear hK K
        refine nr_ (some 45) ?_
        refine o1_ 6 (some 49) (m_ 9 127) rfl rfl (oo HT_) (fun K hK => ?_)
        refine goes_ Tryd.func21 (by kernel_rfl) rfl #[.int .u64 t519, .int .u64 (IntKind.u64.wrap (t505))] (by rfl) rfl rfl ag ?_
        with_reducible refine (carrefourref01_Times.calls _ _ (IntKind.u64.wrap (t505)) _ _ A30.out).mono ?_
        rintro e w102 ⟨v521, rfl, ho0, hb⟩
        refine ⟨_, rfl, ?_⟩
        have HO522 := Aside0.mk (Kd.R_lower (Kd.R_new' (Kd.R_new' ho0 (rl HO515)) (rl HO518)) (below_size (bf HB)))
        replace HO515 := re_ HO515 (Kd.R_base ho0) hb
        replace HO518 := re_ HO518 (Kd.R_base ho0) hb
        replace BK501 := bb BK501 hb
        replace BK502 := bb BK502 hb
        replace BK503 := bb BK503 hb
        replace HB := bs HB hb
        (try clear hb); (try clear ho0)
        obtain ⟨Ao103, co103, eo103⟩ := Kd.R_slice HO522.out
        (first | subst eo103 | (injection eo103 with f1_ f2_ f3_; have f4_ := f1_.symm; have f5_ := f3_.symm; clear f1_ f2_ f3_; subst f4_; subst f5_))
        refine hK.out _ _ ⟨ct BK502 0, ct BK502 1, ct BK501 0, ct BK501 1⟩ (fun hHeld => ?_)
        clear hK K
        refine nr_ (some 49) ?_
        refine o1_ 7 (some 50) (m_ 9 255) rfl rfl (oo HT_) (fun K hK => ?_)
        refine goes_ Tryd.func20 (by kernel_rfl) rfl #[.slice Ao103 t520.length co103] (by rfl) rfl rfl ag ?_
        with_reducible refine (carrefourref02_trim.calls _ _ _ _ _ _ ?side1 ?side2 A31.out).mono ?_
        (case side1 => exact rc HO522)
        (case side2 => exact (Kd.R_reads' HO522.out).2.1)
        rintro e w104 ⟨v524, rfl, ho0, hb⟩
        refine ⟨_, rfl, ?_⟩
        have HO525 := Aside0.mk (Kd.R_lower (Kd.R_new' (Kd.R_new' (Kd.R_new' ho0 (rl HO515)) (rl HO518)) (rl HO522)) (below_size (bf HB)))
        replace HO515 := re_ HO515 (Kd.R_base ho0) hb
        replace HO518 := re_ HO518 (Kd.R_base ho0) hb
        replace HO522 := re_ HO522 (Kd.R_base ho0) hb
        replace BK501 := bb BK501 hb
        replace BK502 := bb BK502 hb
        replace BK503 := bb BK503 hb
        replace HB := bs HB hb
        (try clear hb); (try clear ho0)
        refine hK.out _ _ ⟨ct BK502 0, ct BK502 1, ct BK501 0, ct BK501 1⟩ (fun hHeld => ?_)
        clear hK K
        refine nr_ (some 50) ?_
        refine pu_ 8 (some 7) (m_ 9 511) rfl rfl (ao HT_) ?_
        refine done_ (done_of HT_.out (by kernel_rfl)) ?_
        have hcz105 := X.k2 BK501
        have hcz106 := X.k2 BK502
        try go_wp2_with (first | ((with_reducible refine gc 21 rfl ?_); refine gl_ (some 57) rfl rfl Tryd.func21 ((carrefourref01_Times.calls _ (IntKind.u64.wrap (t505)) (IntKind.u64.wrap (t507)) _ _ A32.out).mono ?_) ag; rintro e w107 ⟨v527, rfl, ho0, hb⟩; refine ⟨_, rfl, ?_⟩; have HO528 := Aside0.mk (Kd.R_lower (Kd.R_new' (Kd.R_new' (Kd.R_new' (Kd.R_new' ho0 (rl HO515)) (rl HO518)) (rl HO522)) (rl HO525)) (below_size (bf HB))); replace HO515 := re_ HO515 (Kd.R_base ho0) hb; replace HO518 := re_ HO518 (Kd.R_base ho0) hb; replace HO522 := re_ HO522 (Kd.R_base ho0) hb; replace HO525 := re_ HO525 (Kd.R_base ho0) hb; replace BK501 := bb BK501 hb; replace BK502 := bb BK502 hb; replace BK503 := bb BK503 hb; replace HB := bs HB hb; (try clear hb); (try clear ho0); obtain ⟨Ao108, co108, eo108⟩ := Kd.R_slice HO528.out; subst eo108) | ((with_reducible refine gc 20 rfl ?_); refine gl_ (some 58) rfl rfl Tryd.func20 ((carrefourref02_trim.calls _ _ _ _ _ _ ?side1 ?side2 A33.out).mono ?_) ag; (case side1 => exact rc HO528); (case side2 => exact (Kd.R_reads' HO528.out).2.1); rintro e w109 ⟨v530, rfl, ho0, hb⟩; refine ⟨_, rfl, ?_⟩; have HO531 := Aside0.mk (Kd.R_lower (Kd.R_new' (Kd.R_new' (Kd.R_new' (Kd.R_new' (Kd.R_new' ho0 (rl HO515)) (rl HO518)) (rl HO522)) (rl HO525)) (rl HO528)) (below_size (bf HB))); replace HO515 := re_ HO515 (Kd.R_base ho0) hb; replace HO518 := re_ HO518 (Kd.R_base ho0) hb; replace HO522 := re_ HO522 (Kd.R_base ho0) hb; replace HO525 := re_ HO525 (Kd.R_base ho0) hb; replace HO528 := re_ HO528 (Kd.R_base ho0) hb; replace BK501 := bb BK501 hb; replace BK502 := bb BK502 hb; replace BK503 := bb BK503 hb; replace HB := bs HB hb; (try clear hb); (try clear ho0); have hcz110 := X.k2 BK501; have hcz111 := X.k2 BK502; obtain ⟨Ao112, co112, eo112⟩ := Kd.R_slice HO518.out; subst eo112; obtain ⟨Ao113, co113, eo113⟩ := Kd.R_slice HO525.out; subst eo113) | ((with_reducible refine gc 25 rfl ?_); refine gm_ (some 79) rfl rfl Tryd.func25 (carrefourref01_Order.calls _ _ _ _ _ _ _ _ _ ?side1 ?side2 ?side3 ?side4 A78.out) ag ?_; (case side1 => exact rc HO518); (case side2 => exact (Kd.R_reads' HO518.out).2.1); (case side3 => exact rc HO525); (case side4 => exact (Kd.R_reads' HO525.out).2.1); intro w114 hb; replace HO515 := rb HO515 hb; replace HO518 := rb HO518 hb; replace HO522 := rb HO522 hb; replace HO525 := rb HO525 hb; replace HO528 := rb HO528 hb; replace HO531 := rb HO531 hb; replace BK501 := bb BK501 hb; replace BK502 := bb BK502 hb; replace BK503 := bb BK503 hb; replace HB := bs HB hb; (try clear hb)))
        replace HO515 := Aside0.mk (Kd.R_drew HO515.out)
        replace HO518 := Aside0.mk (Kd.R_drew HO518.out)
        replace HO522 := Aside0.mk (Kd.R_drew HO522.out)
        replace HO525 := Aside0.mk (Kd.R_drew HO525.out)
        replace HO528 := Aside0.mk (Kd.R_drew HO528.out)
        replace HO531 := Aside0.mk (Kd.R_drew HO531.out)
        replace BK501 := Aside0.mk (blk_drew BK501.out)
        replace BK502 := Aside0.mk (blk_drew BK502.out)
        replace BK503 := Aside0.mk (blk_drew BK503.out)
        replace HB := Aside0.mk (below_drew1 HB.out)
        refine start_ (n := 13) (S := fun w' => c_ w' gb501 0 (.int .i64 t504) ∧ c_ w' gb501 1 (.int .i64 t505)) (ds := []) (m_ 13 0) (by kernel_rfl) rfl rfl ⟨ct BK501 0, ct BK501 1⟩ (fun hHeld => ?_); refine with_tabW carrefourref02_Add.tab11 carrefourref02_Add.bits11 (fun HT_ HW_ => ?_)
        generalize w114.drew = w115 at HO515 HO518 HO522 HO525 HO528 HO531 BK501 BK502 BK503 HB hHeld ⊢
        refine pu_ 0 (some 81) (m_ 13 1) rfl rfl (ao HT_) ?_
        refine pu_ 1 (some 82) (m_ 13 3) rfl rfl (ao HT_) ?_
        refine pu_ 4 (some 85) (m_ 13 19) rfl rfl (ao HT_) ?_
        refine pu_ 5 (some 86) (m_ 13 51) rfl rfl (ao HT_) ?_
        refine tk_ 6 (some 87) (m_ 13 115) rfl rfl (tw HT_ HW_) hHeld ?_
        refine pu_ 7 (some 88) (m_ 13 243) rfl rfl (ao HT_) ?_
        refine o1_ 2 (some 83) (m_ 13 247) rfl rfl (oo HT_) (fun K hK => ?_)
        refine goes_ Tryd.func26 (by kernel_rfl) rfl #[.slice Ao112 t516.length co112, .slice Ao113 t523.length co113] (by rfl) rfl rfl ag ?_
        with_reducible refine (carrefourref01_Minus.calls _ _ _ _ _ _ _ _ _ ?side1 ?side2 ?side3 ?side4 A80.out).mono ?_
        (case side1 => exact rc HO518)
        (case side2 => exact (Kd.R_reads' HO518.out).2.1)
        (case side3 => exact rc HO525)
        (case side4 => exact (Kd.R_reads' HO525.out).2.1)
        rintro e w116 ⟨v543, rfl, ho0, hb⟩
        refine ⟨_, rfl, ?_⟩
        have HO544 := Aside0.mk (Kd.R_lower (Kd.R_new' (Kd.R_new' (Kd.R_new' (Kd.R_new' (Kd.R_new' (Kd.R_new' ho0 (rl HO515)) (rl HO518)) (rl HO522)) (rl HO525)) (rl HO528)) (rl HO531)) (below_size (bf HB)))
        replace HO515 := re_ HO515 (Kd.R_base ho0) hb
        replace HO518 := re_ HO518 (Kd.R_base ho0) hb
        replace HO522 := re_ HO522 (Kd.R_base ho0) hb
        replace HO525 := re_ HO525 (Kd.R_base ho0) hb
        replace HO528 := re_ HO528 (Kd.R_base ho0) hb
        replace HO531 := re_ HO531 (Kd.R_base ho0) hb
        replace BK501 := bb BK501 hb
        replace BK502 := bb BK502 hb
        replace BK503 := bb BK503 hb
        replace HB := bs HB hb
        (try clear hb); (try clear ho0)
        obtain ⟨Ao117, co117, eo117⟩ := Kd.R_slice HO544.out
        (first | subst eo117 | (injection eo117 with f1_ f2_ f3_; have f4_ := f1_.symm; have f5_ := f3_.symm; clear f1_ f2_ f3_; subst f4_; subst f5_))
        refine hK.out _ _ ⟨ct BK501 0, ct BK501 1⟩ (fun hHeld => ?_)
        clear hK K
        refine nr_ (some 83) ?_
        refine o1_ 3 (some 84) (m_ 13 255) rfl rfl (oo HT_) (fun K hK => ?_)
        refine goes_ Tryd.func20 (by kernel_rfl) rfl #[.slice Ao117 t542.length co117] (by rfl) rfl rfl ag ?_
        with_reducible refine (carrefourref02_trim.calls _ _ _ _ _ _ ?side1 ?side2 A81.out).mono ?_
        (case side1 => exact rc HO544)
        (case side2 => exact (Kd.R_reads' HO544.out).2.1)
        rintro e w118 ⟨v546, rfl, ho0, hb⟩
        refine ⟨_, rfl, ?_⟩
        have HO547 := Aside0.mk (Kd.R_lower (Kd.R_new' (Kd.R_new' (Kd.R_new' (Kd.R_new' (Kd.R_new' (Kd.R_new' (Kd.R_new' ho0 (rl HO515)) (rl HO518)) (rl HO522)) (rl HO525)) (rl HO528)) (rl HO531)) (rl HO544)) (below_size (bf HB)))
        replace HO515 := re_ HO515 (Kd.R_base ho0) hb
        replace HO518 := re_ HO518 (Kd.R_base ho0) hb
        replace HO522 := re_ HO522 (Kd.R_base ho0) hb
        replace HO525 := re_ HO525 (Kd.R_base ho0) hb
        replace HO528 := re_ HO528 (Kd.R_base ho0) hb
        replace HO531 := re_ HO531 (Kd.R_base ho0) hb
        replace HO544 := re_ HO544 (Kd.R_base ho0) hb
        replace BK501 := bb BK501 hb
        replace BK502 := bb BK502 hb
        replace BK503 := bb BK503 hb
        replace HB := bs HB hb
        (try clear hb); (try clear ho0)
        obtain ⟨Ao119, co119, eo119⟩ := Kd.R_slice HO547.out
        (first | subst eo119 | (injection eo119 with f1_ f2_ f3_; have f4_ := f1_.symm; have f5_ := f3_.symm; clear f1_ f2_ f3_; subst f4_; subst f5_))
        obtain ⟨Ao120, co120, eo120⟩ := Kd.R_slice HO531.out
        (first | subst eo120 | (injection eo120 with f1_ f2_ f3_; have f4_ := f1_.symm; have f5_ := f3_.symm; clear f1_ f2_ f3_; subst f4_; subst f5_))
        refine hK.out _ _ ⟨ct BK501 0, ct BK501 1⟩ (fun hHeld => ?_)
        clear hK K
        refine nr_ (some 84) ?_
        refine o1_ 8 (some 89) (m_ 13 511) rfl rfl (oo HT_) (fun K hK => ?_)
        refine gs_ rfl Tryd.func23 (carrefourref02_lowest.calls _ (fun k_ => some k_ = (.slice Ao119 t545.length co119 : Value).ownBlock) _ _ _ (fun k_ => some k_ = (.slice Ao120 t529.length co120 : Value).ownBlock) _ _ _ (decide (t504 < 0)) _ _ _ _ ?side1 ?side2 A82.out) ag ?_
        (case side1 => exact Kd.R_V (Kd.R_tight rfl (Kd.R_types (Kd.R_types (Kd.R_types (HO547.out) BK501.out (by decide)) BK502.out (by decide)) BK503.out (by decide))))
        (case side2 => exact Kd.R_V (Kd.R_tight rfl (Kd.R_types (Kd.R_types (Kd.R_types (HO531.out) BK501.out (by decide)) BK502.out (by decide)) BK503.out (by decide))))
        intro w121 hb
        replace HO515 := rb HO515 hb
        replace HO518 := rb HO518 hb
        replace HO522 := rb HO522 hb
        replace HO525 := rb HO525 hb
        replace HO528 := rb HO528 hb
        replace HO531 := rb HO531 hb
        replace HO544 := rb HO544 hb
        replace HO547 := rb HO547 hb
        replace BK501 := bb BK501 hb
        replace BK503 := bb BK503 hb
        replace HB := bs HB hb
        (try clear hb)
        refine hK.out _ _ ⟨ct BK501 0, ct BK501 1⟩ (fun hHeld => ?_)
        clear hK K
        refine nr_ (some 89) ?_
        refine pu_ 9 (some 90) (m_ 13 1023) rfl rfl (ao HT_) ?_
        refine pu_ 10 (some 91) (m_ 13 2047) rfl rfl (ao HT_) ?_
        refine o1_ 11 (none) (m_ 13 4095) rfl rfl (oo HT_) (fun K hK => ?_)
        have hs122 : c_ w121 gb503 0 (.int .i64 0) := ct BK503 0
        have hfs122 := blk_frozen BK503.out 0
        have hns122_0 := NB501_503.out
        have hns122_1 := NB502_503.out
        have hms122_0 := NB503_501.out
        have hms122_1 := NB503_502.out
        have hs123 : c_ w121 gb503 1 (.int .i64 0) := ct BK503 1
        have hfs123 := blk_frozen BK503.out 1
        have hns123_0 := NB501_503.out
        have hns123_1 := NB502_503.out
        have hms123_0 := NB503_501.out
        have hms123_1 := NB503_502.out
        refine skip_ (w1 := ?_) (by rfl) rfl ?_ ?_
        rotate_left
        · go_simp
          rfl
        refine hK.out _ _ ⟨((cell_far (p := ⟨gb503, _, none⟩) NB501_503.out _).trans (((cell_far (p := ⟨gb503, _, none⟩) NB501_503.out _).trans (hHeld.1)))), ((cell_far (p := ⟨gb503, _, none⟩) NB501_503.out _).trans (((cell_far (p := ⟨gb503, _, none⟩) NB501_503.out _).trans (hHeld.2))))⟩ (fun hHeld => ?_)
        clear hK K
        refine pu_ 12 (some 5) (m_ 13 8191) rfl rfl (ao HT_) ?_
        refine done_ (done_of HT_.out (by kernel_rfl)) ?_
        try go_wp2
        refine bodyPost_ret (results_ct rfl _ _ gb503 23 #[.int .i64 t548, .int .i64 t549] (0, 0) _ rfl (br_ BK503) Tryd.underlying23 rfl (by kernel_rfl)) rfl ?_
        exact ⟨ae, bf HB⟩
      · rw [if_neg c79] at H
        have c79b0 : decide (0 ≤ t541) = false := decide_eq_false c79
        clear c79
        replace H := bi_ H; obtain ⟨t551, A124, H⟩ := H
        (try dsimp only at H)
        replace H := bi_ H; obtain ⟨t554, A125, H⟩ := H
        (try dsimp only at H)
        replace H := bi_ H; obtain ⟨⟨t557, t558, t559⟩, A126, H⟩ := H
        (try dsimp only at H)
        simp only [Option.some.injEq, Prod.mk.injEq] at H
        obtain ⟨rfl, rfl, rfl⟩ := H
        go_enter Tryd.func8, Tryd.ntmps8
        try go_wp2_with (first | ((with_reducible refine gd 2 rfl ?_); refine bx_ 2 23 #[.int .i64 a0_0, .int .i64 a0_1] rfl rfl ?_; intro gb501 hg w127 BK501 hb; have GE501 := bz HB hg; replace HB := bs HB hb; clear hb hg) | ((with_reducible refine gd 3 rfl ?_); refine bx_ 3 23 #[.int .i64 a1_0, .int .i64 a1_1] rfl rfl ?_; intro gb502 hg w128 BK502 hb; have GE502 := bz HB hg; have ⟨NB501_502, NB502_501⟩ := nb BK501 hg; replace BK501 := bb BK501 hb; replace HB := bs HB hb; clear hb hg) | ((with_reducible refine gd 4 rfl ?_); refine bx_ 4 23 #[.int .i64 0, .int .i64 0] rfl rfl ?_; intro gb503 hg w129 BK503 hb; have GE503 := bz HB hg; have ⟨NB501_503, NB503_501⟩ := nb BK501 hg; have ⟨NB502_503, NB503_502⟩ := nb BK502 hg; replace BK501 := bb BK501 hb; replace BK502 := bb BK502 hb; replace HB := bs HB hb; clear hb hg; have hnb130 := nn NB501_502; have hnb131 := nn NB501_503; have hcz132 := X.k2 BK501) | ((with_reducible refine gc 16 rfl ?_); refine gm_ (some 10) rfl rfl Tryd.func16 (carrefourref02_Norm.calls _ _ _ _ _ _ A3.out) ag ?_; intro w133 hb; replace BK501 := bb BK501 hb; replace BK502 := bb BK502 hb; replace BK503 := bb BK503 hb; replace HB := bs HB hb; (try clear hb); have hcz134 := X.k2 BK501; have hnb135 := nn NB502_503; have hcz136 := X.k2 BK502) | ((with_reducible refine gc 16 rfl ?_); refine gm_ (some 12) rfl rfl Tryd.func16 (carrefourref02_Norm.calls _ _ _ _ _ _ A4.out) ag ?_; intro w137 hb; replace BK501 := bp_ #[.int .i64 t504, .int .i64 t505] BK501 hb; replace BK502 := bb BK502 hb; replace BK503 := bb BK503 hb; replace HB := bs HB hb; (try clear hb); have hcz138 := X.k2 BK502; have hcz139 := X.k2 BK501) | ((with_reducible refine gc 18 rfl ?_); refine gm_ (some 15) rfl rfl Tryd.func18 (carrefourref02_few.calls _ _ _ _ _ _ A5.out) ag ?_; intro w140 hb; replace BK501 := bb BK501 hb; replace BK502 := bp_ #[.int .i64 t506, .int .i64 t507] BK502 hb; replace BK503 := bb BK503 hb; replace HB := bs HB hb; (try clear hb)))
        replace BK501 := Aside0.mk (blk_drew BK501.out)
        replace BK502 := Aside0.mk (blk_drew BK502.out)
        replace BK503 := Aside0.mk (blk_drew BK503.out)
        replace HB := Aside0.mk (below_drew1 HB.out)
        refine start_ (n := 9) (S := fun w' => c_ w' gb501 0 (.int .i64 t504) ∧ c_ w' gb501 1 (.int .i64 t505) ∧ c_ w' gb502 0 (.int .i64 t506) ∧ c_ w' gb502 1 (.int .i64 t507)) (ds := []) (m_ 9 0) (by kernel_rfl) rfl rfl ⟨ct BK501 0, ct BK501 1, ct BK502 0, ct BK502 1⟩ (fun hHeld => ?_); refine with_tabW carrefourref02_Add.tab5 carrefourref02_Add.bits5 (fun HT_ HW_ => ?_)
        generalize w140.drew = w141 at BK501 BK502 BK503 HB hHeld ⊢
        refine pu_ 0 (some 35) (m_ 9 1) rfl rfl (ao HT_) ?_
        refine pu_ 3 (some 38) (m_ 9 9) rfl rfl (ao HT_) ?_
        refine tk_ 1 (some 36) (m_ 9 11) rfl rfl (tw HT_ HW_) hHeld ?_
        refine tk_ 4 (some 39) (m_ 9 27) rfl rfl (tw HT_ HW_) hHeld ?_
        refine pu_ 5 (some 40) (m_ 9 59) rfl rfl (ao HT_) ?_
        refine o1_ 2 (some 37) (m_ 9 63) rfl rfl (oo HT_) (fun K hK => ?_)
        refine gs_ rfl Tryd.func22 (carrefourref01_Size.calls _ _ _ A26.out) ag ?_
        rintro w' ⟨nd, rfl⟩
        refine hK.out _ _ ⟨ct BK501 0, ct BK501 1, ct BK502 0, ct BK502 1⟩ (fun hHeld => ?_)
        clear hK K
        refine nr_ (some 37) ?_
        refine o1_ 6 (some 41) (m_ 9 127) rfl rfl (oo HT_) (fun K hK => ?_)
        refine goes_ Tryd.func21 (by kernel_rfl) rfl #[.int .u64 t512, .int .u64 (IntKind.u64.wrap (t507))] (by rfl) rfl rfl ag ?_
        with_reducible refine (carrefourref01_Times.calls _ _ (IntKind.u64.wrap (t507)) _ _ A27.out).mono ?_
        rintro e w142 ⟨v514, rfl, ho0, hb⟩
        refine ⟨_, rfl, ?_⟩
        have HO515 := Aside0.mk (Kd.R_lower ho0 (below_size (bf HB)))
        replace BK501 := bb BK501 hb
        replace BK502 := bb BK502 hb
        replace BK503 := bb BK503 hb
        replace HB := bs HB hb
        (try clear hb); (try clear ho0)
        obtain ⟨Ao143, co143, eo143⟩ := Kd.R_slice HO515.out
        (first | subst eo143 | (injection eo143 with f1_ f2_ f3_; have f4_ := f1_.symm; have f5_ := f3_.symm; clear f1_ f2_ f3_; subst f4_; subst f5_))
        refine hK.out _ _ ⟨ct BK501 0, ct BK501 1, ct BK502 0, ct BK502 1⟩ (fun hHeld => ?_)
        clear hK K
        refine nr_ (some 41) ?_
        refine o1_ 7 (some 42) (m_ 9 255) rfl rfl (oo HT_) (fun K hK => ?_)
        refine goes_ Tryd.func20 (by kernel_rfl) rfl #[.slice Ao143 t513.length co143] (by rfl) rfl rfl ag ?_
        with_reducible refine (carrefourref02_trim.calls _ _ _ _ _ _ ?side1 ?side2 A28.out).mono ?_
        (case side1 => exact rc HO515)
        (case side2 => exact (Kd.R_reads' HO515.out).2.1)
        rintro e w144 ⟨v517, rfl, ho0, hb⟩
        refine ⟨_, rfl, ?_⟩
        have HO518 := Aside0.mk (Kd.R_lower (Kd.R_new' ho0 (rl HO515)) (below_size (bf HB)))
        replace HO515 := re_ HO515 (Kd.R_base ho0) hb
        replace BK501 := bb BK501 hb
        replace BK502 := bb BK502 hb
        replace BK503 := bb BK503 hb
        replace HB := bs HB hb
        (try clear hb); (try clear ho0)
        refine hK.out _ _ ⟨ct BK501 0, ct BK501 1, ct BK502 0, ct BK502 1⟩ (fun hHeld => ?_)
        clear hK K
        refine nr_ (some 42) ?_
        refine pu_ 8 (some 6) (m_ 9 511) rfl rfl (ao HT_) ?_
        refine done_ (done_of HT_.out (by kernel_rfl)) ?_
        try go_wp2
        replace HO515 := Aside0.mk (Kd.R_drew HO515.out)
        replace HO518 := Aside0.mk (Kd.R_drew HO518.out)
        replace BK501 := Aside0.mk (blk_drew BK501.out)
        replace BK502 := Aside0.mk (blk_drew BK502.out)
        replace BK503 := Aside0.mk (blk_drew BK503.out)
        replace HB := Aside0.mk (below_drew1 HB.out)
        refine start_ (n := 9) (S := fun w' => c_ w' gb502 0 (.int .i64 t506) ∧ c_ w' gb502 1 (.int .i64 t507) ∧ c_ w' gb501 0 (.int .i64 t504) ∧ c_ w' gb501 1 (.int .i64 t505)) (ds := []) (m_ 9 0) (by kernel_rfl) rfl rfl ⟨ct BK502 0, ct BK502 1, ct BK501 0, ct BK501 1⟩ (fun hHeld => ?_); refine with_tabW carrefourref02_Add.tab6 carrefourref02_Add.bits6 (fun HT_ HW_ => ?_)
        generalize w144.drew = w145 at HO515 HO518 BK501 BK502 BK503 HB hHeld ⊢
        refine pu_ 0 (some 43) (m_ 9 1) rfl rfl (ao HT_) ?_
        refine pu_ 3 (some 46) (m_ 9 9) rfl rfl (ao HT_) ?_
        refine tk_ 1 (some 44) (m_ 9 11) rfl rfl (tw HT_ HW_) hHeld ?_
        refine tk_ 4 (some 47) (m_ 9 27) rfl rfl (tw HT_ HW_) hHeld ?_
        refine pu_ 5 (some 48) (m_ 9 59) rfl rfl (ao HT_) ?_
        refine o1_ 2 (some 45) (m_ 9 63) rfl rfl (oo HT_) (fun K hK => ?_)
        refine gs_ rfl Tryd.func22 (carrefourref01_Size.calls _ _ _ A29.out) ag ?_
        rintro w' ⟨nd, rfl⟩
        refine hK.out _ _ ⟨ct BK502 0, ct BK502 1, ct BK501 0, ct BK501 1⟩ (fun hHeld => ?_)
        clear hK K
        refine nr_ (some 45) ?_
        refine o1_ 6 (some 49) (m_ 9 127) rfl rfl (oo HT_) (fun K hK => ?_)
        refine goes_ Tryd.func21 (by kernel_rfl) rfl #[.int .u64 t519, .int .u64 (IntKind.u64.wrap (t505))] (by rfl) rfl rfl ag ?_
        with_reducible refine (carrefourref01_Times.calls _ _ (IntKind.u64.wrap (t505)) _ _ A30.out).mono ?_
        rintro e w146 ⟨v521, rfl, ho0, hb⟩
        refine ⟨_, rfl, ?_⟩
        have HO522 := Aside0.mk (Kd.R_lower (Kd.R_new' (Kd.R_new' ho0 (rl HO515)) (rl HO518)) (below_size (bf HB)))
        replace HO515 := re_ HO515 (Kd.R_base ho0) hb
        replace HO518 := re_ HO518 (Kd.R_base ho0) hb
        replace BK501 := bb BK501 hb
        replace BK502 := bb BK502 hb
        replace BK503 := bb BK503 hb
        replace HB := bs HB hb
        (try clear hb); (try clear ho0)
        obtain ⟨Ao147, co147, eo147⟩ := Kd.R_slice HO522.out
        (first | subst eo147 | (injection eo147 with f1_ f2_ f3_; have f4_ := f1_.symm; have f5_ := f3_.symm; clear f1_ f2_ f3_; subst f4_; subst f5_))
        refine hK.out _ _ ⟨ct BK502 0, ct BK502 1, ct BK501 0, ct BK501 1⟩ (fun hHeld => ?_)
        clear hK K
        refine nr_ (some 49) ?_
        refine o1_ 7 (some 50) (m_ 9 255) rfl rfl (oo HT_) (fun K hK => ?_)
        refine goes_ Tryd.func20 (by kernel_rfl) rfl #[.slice Ao147 t520.length co147] (by rfl) rfl rfl ag ?_
        with_reducible refine (carrefourref02_trim.calls _ _ _ _ _ _ ?side1 ?side2 A31.out).mono ?_
        (case side1 => exact rc HO522)
        (case side2 => exact (Kd.R_reads' HO522.out).2.1)
        rintro e w148 ⟨v524, rfl, ho0, hb⟩
        refine ⟨_, rfl, ?_⟩
        have HO525 := Aside0.mk (Kd.R_lower (Kd.R_new' (Kd.R_new' (Kd.R_new' ho0 (rl HO515)) (rl HO518)) (rl HO522)) (below_size (bf HB)))
        replace HO515 := re_ HO515 (Kd.R_base ho0) hb
        replace HO518 := re_ HO518 (Kd.R_base ho0) hb
        replace HO522 := re_ HO522 (Kd.R_base ho0) hb
        replace BK501 := bb BK501 hb
        replace BK502 := bb BK502 hb
        replace BK503 := bb BK503 hb
        replace HB := bs HB hb
        (try clear hb); (try clear ho0)
        refine hK.out _ _ ⟨ct BK502 0, ct BK502 1, ct BK501 0, ct BK501 1⟩ (fun hHeld => ?_)
        clear hK K
        refine nr_ (some 50) ?_
        refine pu_ 8 (some 7) (m_ 9 511) rfl rfl (ao HT_) ?_
        refine done_ (done_of HT_.out (by kernel_rfl)) ?_
        have hcz149 := X.k2 BK501
        have hcz150 := X.k2 BK502
        try go_wp2_with (first | ((with_reducible refine gc 21 rfl ?_); refine gl_ (some 57) rfl rfl Tryd.func21 ((carrefourref01_Times.calls _ (IntKind.u64.wrap (t505)) (IntKind.u64.wrap (t507)) _ _ A32.out).mono ?_) ag; rintro e w151 ⟨v527, rfl, ho0, hb⟩; refine ⟨_, rfl, ?_⟩; have HO528 := Aside0.mk (Kd.R_lower (Kd.R_new' (Kd.R_new' (Kd.R_new' (Kd.R_new' ho0 (rl HO515)) (rl HO518)) (rl HO522)) (rl HO525)) (below_size (bf HB))); replace HO515 := re_ HO515 (Kd.R_base ho0) hb; replace HO518 := re_ HO518 (Kd.R_base ho0) hb; replace HO522 := re_ HO522 (Kd.R_base ho0) hb; replace HO525 := re_ HO525 (Kd.R_base ho0) hb; replace BK501 := bb BK501 hb; replace BK502 := bb BK502 hb; replace BK503 := bb BK503 hb; replace HB := bs HB hb; (try clear hb); (try clear ho0); obtain ⟨Ao152, co152, eo152⟩ := Kd.R_slice HO528.out; subst eo152) | ((with_reducible refine gc 20 rfl ?_); refine gl_ (some 58) rfl rfl Tryd.func20 ((carrefourref02_trim.calls _ _ _ _ _ _ ?side1 ?side2 A33.out).mono ?_) ag; (case side1 => exact rc HO528); (case side2 => exact (Kd.R_reads' HO528.out).2.1); rintro e w153 ⟨v530, rfl, ho0, hb⟩; refine ⟨_, rfl, ?_⟩; have HO531 := Aside0.mk (Kd.R_lower (Kd.R_new' (Kd.R_new' (Kd.R_new' (Kd.R_new' (Kd.R_new' ho0 (rl HO515)) (rl HO518)) (rl HO522)) (rl HO525)) (rl HO528)) (below_size (bf HB))); replace HO515 := re_ HO515 (Kd.R_base ho0) hb; replace HO518 := re_ HO518 (Kd.R_base ho0) hb; replace HO522 := re_ HO522 (Kd.R_base ho0) hb; replace HO525 := re_ HO525 (Kd.R_base ho0) hb; replace HO528 := re_ HO528 (Kd.R_base ho0) hb; replace BK501 := bb BK501 hb; replace BK502 := bb BK502 hb; replace BK503 := bb BK503 hb; replace HB := bs HB hb; (try clear hb); (try clear ho0); have hcz154 := X.k2 BK501; have hcz155 := X.k2 BK502; obtain ⟨Ao156, co156, eo156⟩ := Kd.R_slice HO518.out; subst eo156; obtain ⟨Ao157, co157, eo157⟩ := Kd.R_slice HO525.out; subst eo157) | ((with_reducible refine gc 25 rfl ?_); refine gm_ (some 79) rfl rfl Tryd.func25 (carrefourref01_Order.calls _ _ _ _ _ _ _ _ _ ?side1 ?side2 ?side3 ?side4 A78.out) ag ?_; (case side1 => exact rc HO518); (case side2 => exact (Kd.R_reads' HO518.out).2.1); (case side3 => exact rc HO525); (case side4 => exact (Kd.R_reads' HO525.out).2.1); intro w158 hb; replace HO515 := rb HO515 hb; replace HO518 := rb HO518 hb; replace HO522 := rb HO522 hb; replace HO525 := rb HO525 hb; replace HO528 := rb HO528 hb; replace HO531 := rb HO531 hb; replace BK501 := bb BK501 hb; replace BK502 := bb BK502 hb; replace BK503 := bb BK503 hb; replace HB := bs HB hb; (try clear hb)))
        replace HO515 := Aside0.mk (Kd.R_drew HO515.out)
        replace HO518 := Aside0.mk (Kd.R_drew HO518.out)
        replace HO522 := Aside0.mk (Kd.R_drew HO522.out)
        replace HO525 := Aside0.mk (Kd.R_drew HO525.out)
        replace HO528 := Aside0.mk (Kd.R_drew HO528.out)
        replace HO531 := Aside0.mk (Kd.R_drew HO531.out)
        replace BK501 := Aside0.mk (blk_drew BK501.out)
        replace BK502 := Aside0.mk (blk_drew BK502.out)
        replace BK503 := Aside0.mk (blk_drew BK503.out)
        replace HB := Aside0.mk (below_drew1 HB.out)
        refine start_ (n := 13) (S := fun w' => c_ w' gb502 0 (.int .i64 t506) ∧ c_ w' gb502 1 (.int .i64 t507)) (ds := []) (m_ 13 0) (by kernel_rfl) rfl rfl ⟨ct BK502 0, ct BK502 1⟩ (fun hHeld => ?_); refine with_tabW carrefourref02_Add.tab12 carrefourref02_Add.bits12 (fun HT_ HW_ => ?_)
        generalize w158.drew = w159 at HO515 HO518 HO522 HO525 HO528 HO531 BK501 BK502 BK503 HB hHeld ⊢
        refine pu_ 0 (some 92) (m_ 13 1) rfl rfl (ao HT_) ?_
        refine pu_ 1 (some 93) (m_ 13 3) rfl rfl (ao HT_) ?_
        refine pu_ 4 (some 96) (m_ 13 19) rfl rfl (ao HT_) ?_
        refine pu_ 5 (some 97) (m_ 13 51) rfl rfl (ao HT_) ?_
        refine tk_ 6 (some 98) (m_ 13 115) rfl rfl (tw HT_ HW_) hHeld ?_
        refine pu_ 7 (some 99) (m_ 13 243) rfl rfl (ao HT_) ?_
        refine o1_ 2 (some 94) (m_ 13 247) rfl rfl (oo HT_) (fun K hK => ?_)
        refine goes_ Tryd.func26 (by kernel_rfl) rfl #[.slice Ao157 t523.length co157, .slice Ao156 t516.length co156] (by rfl) rfl rfl ag ?_
        with_reducible refine (carrefourref01_Minus.calls _ _ _ _ _ _ _ _ _ ?side1 ?side2 ?side3 ?side4 A124.out).mono ?_
        (case side1 => exact rc HO525)
        (case side2 => exact (Kd.R_reads' HO525.out).2.1)
        (case side3 => exact rc HO518)
        (case side4 => exact (Kd.R_reads' HO518.out).2.1)
        rintro e w160 ⟨v552, rfl, ho0, hb⟩
        refine ⟨_, rfl, ?_⟩
        have HO553 := Aside0.mk (Kd.R_lower (Kd.R_new' (Kd.R_new' (Kd.R_new' (Kd.R_new' (Kd.R_new' (Kd.R_new' ho0 (rl HO515)) (rl HO518)) (rl HO522)) (rl HO525)) (rl HO528)) (rl HO531)) (below_size (bf HB)))
        replace HO515 := re_ HO515 (Kd.R_base ho0) hb
        replace HO518 := re_ HO518 (Kd.R_base ho0) hb
        replace HO522 := re_ HO522 (Kd.R_base ho0) hb
        replace HO525 := re_ HO525 (Kd.R_base ho0) hb
        replace HO528 := re_ HO528 (Kd.R_base ho0) hb
        replace HO531 := re_ HO531 (Kd.R_base ho0) hb
        replace BK501 := bb BK501 hb
        replace BK502 := bb BK502 hb
        replace BK503 := bb BK503 hb
        replace HB := bs HB hb
        (try clear hb); (try clear ho0)
        obtain ⟨Ao161, co161, eo161⟩ := Kd.R_slice HO553.out
        (first | subst eo161 | (injection eo161 with f1_ f2_ f3_; have f4_ := f1_.symm; have f5_ := f3_.symm; clear f1_ f2_ f3_; subst f4_; subst f5_))
        refine hK.out _ _ ⟨ct BK502 0, ct BK502 1⟩ (fun hHeld => ?_)
        clear hK K
        refine nr_ (some 94) ?_
        refine o1_ 3 (some 95) (m_ 13 255) rfl rfl (oo HT_) (fun K hK => ?_)
        refine goes_ Tryd.func20 (by kernel_rfl) rfl #[.slice Ao161 t551.length co161] (by rfl) rfl rfl ag ?_
        with_reducible refine (carrefourref02_trim.calls _ _ _ _ _ _ ?side1 ?side2 A125.out).mono ?_
        (case side1 => exact rc HO553)
        (case side2 => exact (Kd.R_reads' HO553.out).2.1)
        rintro e w162 ⟨v555, rfl, ho0, hb⟩
        refine ⟨_, rfl, ?_⟩
        have HO556 := Aside0.mk (Kd.R_lower (Kd.R_new' (Kd.R_new' (Kd.R_new' (Kd.R_new' (Kd.R_new' (Kd.R_new' (Kd.R_new' ho0 (rl HO515)) (rl HO518)) (rl HO522)) (rl HO525)) (rl HO528)) (rl HO531)) (rl HO553)) (below_size (bf HB)))
        replace HO515 := re_ HO515 (Kd.R_base ho0) hb
        replace HO518 := re_ HO518 (Kd.R_base ho0) hb
        replace HO522 := re_ HO522 (Kd.R_base ho0) hb
        replace HO525 := re_ HO525 (Kd.R_base ho0) hb
        replace HO528 := re_ HO528 (Kd.R_base ho0) hb
        replace HO531 := re_ HO531 (Kd.R_base ho0) hb
        replace HO553 := re_ HO553 (Kd.R_base ho0) hb
        replace BK501 := bb BK501 hb
        replace BK502 := bb BK502 hb
        replace BK503 := bb BK503 hb
        replace HB := bs HB hb
        (try clear hb); (try clear ho0)
        obtain ⟨Ao163, co163, eo163⟩ := Kd.R_slice HO556.out
        (first | subst eo163 | (injection eo163 with f1_ f2_ f3_; have f4_ := f1_.symm; have f5_ := f3_.symm; clear f1_ f2_ f3_; subst f4_; subst f5_))
        obtain ⟨Ao164, co164, eo164⟩ := Kd.R_slice HO531.out
        (first | subst eo164 | (injection eo164 with f1_ f2_ f3_; have f4_ := f1_.symm; have f5_ := f3_.symm; clear f1_ f2_ f3_; subst f4_; subst f5_))
        refine hK.out _ _ ⟨ct BK502 0, ct BK502 1⟩ (fun hHeld => ?_)
        clear hK K
        refine nr_ (some 95) ?_
        refine o1_ 8 (some 100) (m_ 13 511) rfl rfl (oo HT_) (fun K hK => ?_)
        refine gs_ rfl Tryd.func23 (carrefourref02_lowest.calls _ (fun k_ => some k_ = (.slice Ao163 t554.length co163 : Value).ownBlock) _ _ _ (fun k_ => some k_ = (.slice Ao164 t529.length co164 : Value).ownBlock) _ _ _ (decide (t506 < 0)) _ _ _ _ ?side1 ?side2 A126.out) ag ?_
        (case side1 => exact Kd.R_V (Kd.R_tight rfl (Kd.R_types (Kd.R_types (Kd.R_types (HO556.out) BK501.out (by decide)) BK502.out (by decide)) BK503.out (by decide))))
        (case side2 => exact Kd.R_V (Kd.R_tight rfl (Kd.R_types (Kd.R_types (Kd.R_types (HO531.out) BK501.out (by decide)) BK502.out (by decide)) BK503.out (by decide))))
        intro w165 hb
        replace HO515 := rb HO515 hb
        replace HO518 := rb HO518 hb
        replace HO522 := rb HO522 hb
        replace HO525 := rb HO525 hb
        replace HO528 := rb HO528 hb
        replace HO531 := rb HO531 hb
        replace HO553 := rb HO553 hb
        replace HO556 := rb HO556 hb
        replace BK502 := bb BK502 hb
        replace BK503 := bb BK503 hb
        replace HB := bs HB hb
        (try clear hb)
        refine hK.out _ _ ⟨ct BK502 0, ct BK502 1⟩ (fun hHeld => ?_)
        clear hK K
        refine nr_ (some 100) ?_
        refine pu_ 9 (some 101) (m_ 13 1023) rfl rfl (ao HT_) ?_
        refine pu_ 10 (some 102) (m_ 13 2047) rfl rfl (ao HT_) ?_
        refine o1_ 11 (none) (m_ 13 4095) rfl rfl (oo HT_) (fun K hK => ?_)
        have hs166 : c_ w165 gb503 0 (.int .i64 0) := ct BK503 0
        have hfs166 := blk_frozen BK503.out 0
        have hns166_0 := NB501_503.out
        have hns166_1 := NB502_503.out
        have hms166_0 := NB503_501.out
        have hms166_1 := NB503_502.out
        have hs167 : c_ w165 gb503 1 (.int .i64 0) := ct BK503 1
        have hfs167 := blk_frozen BK503.out 1
        have hns167_0 := NB501_503.out
        have hns167_1 := NB502_503.out
        have hms167_0 := NB503_501.out
        have hms167_1 := NB503_502.out
        refine skip_ (w1 := ?_) (by rfl) rfl ?_ ?_
        rotate_left
        · go_simp
          rfl
        refine hK.out _ _ ⟨((cell_far (p := ⟨gb503, _, none⟩) NB502_503.out _).trans (((cell_far (p := ⟨gb503, _, none⟩) NB502_503.out _).trans (hHeld.1)))), ((cell_far (p := ⟨gb503, _, none⟩) NB502_503.out _).trans (((cell_far (p := ⟨gb503, _, none⟩) NB502_503.out _).trans (hHeld.2))))⟩ (fun hHeld => ?_)
        clear hK K
        refine pu_ 12 (some 5) (m_ 13 8191) rfl rfl (ao HT_) ?_
        refine done_ (done_of HT_.out (by kernel_rfl)) ?_
        try go_wp2
        refine bodyPost_ret (results_ct rfl _ _ gb503 23 #[.int .i64 t557, .int .i64 t558] (0, 0) _ rfl (br_ BK503) Tryd.underlying23 rfl (by kernel_rfl)) rfl ?_
        exact ⟨ae, bf HB⟩

end Go.Proofs.YtcdaedhphdmnoaaDoor.X
