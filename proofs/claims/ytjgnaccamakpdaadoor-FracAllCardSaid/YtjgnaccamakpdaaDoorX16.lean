/- Walks: each '.calls' says that the Go function comes to what its Lean function tells. Conditions: as each theorem's head says. -/
import Derived.Test.YtjgnaccamakpdaaDoorXD
import Derived.Test.YtjgnaccamakpdaaDoorX0
import Derived.Test.YtjgnaccamakpdaaDoorX11
import Derived.Test.YtjgnaccamakpdaaDoorX12
import Derived.Test.YtjgnaccamakpdaaDoorX13
import Derived.Test.YtjgnaccamakpdaaDoorX14
import Derived.Test.YtjgnaccamakpdaaDoorX15
namespace Go.Proofs.YtjgnaccamakpdaaDoor.X
open Go.RowKit Go.Proofs.YtjgnaccamakpdaaDoorW.PrintWords Go.Proofs.YtjgnaccamakpdaaDoorW.PrintLast Go.Proofs.YtjgnaccamakpdaaDoorW.PrintMore
attribute [local go_sem] max2_int min2_int max_two min_two max_three min_three max_four min_four   -- for this text's walks alone
set_option linter.unusedVariables false
set_option maxHeartbeats 8000000
set_option maxRecDepth 100000
set_option linter.unusedSimpArgs false

/-! ### carrefourref02_Add: function 11 -/
def carrefourref02_Add.T5 : Bool × List (List Nat × List Nat) := (true, [([], []), ([0], [0]), ([1], [1]), ([], []), ([3], [3]), ([4], [4]), ([2, 5, 2], [2, 5]), ([6, 6], [6]), ([7, 7, 0, 1, 2, 3, 4, 5, 6, 7], [7])])
def carrefourref02_Add.B5 : List Nat := [0, 1, 3, 0, 8, 24, 63, 127, 255]
theorem carrefourref02_Add.tab5 : rtab .any (opsOf Tryd.f11 5) = carrefourref02_Add.T5 := by kernel_rfl
theorem carrefourref02_Add.bits5 : waitsOk carrefourref02_Add.T5.2 carrefourref02_Add.B5 = true := by kernel_rfl
def carrefourref02_Add.T6 : Bool × List (List Nat × List Nat) := (true, [([], []), ([0], [0]), ([1], [1]), ([], []), ([3], [3]), ([4], [4]), ([2, 5, 2], [2, 5]), ([6, 6], [6]), ([7, 7, 0, 1, 2, 3, 4, 5, 6, 7], [7])])
def carrefourref02_Add.B6 : List Nat := [0, 1, 3, 0, 8, 24, 63, 127, 255]
theorem carrefourref02_Add.tab6 : rtab .any (opsOf Tryd.f11 6) = carrefourref02_Add.T6 := by kernel_rfl
theorem carrefourref02_Add.bits6 : waitsOk carrefourref02_Add.T6.2 carrefourref02_Add.B6 = true := by kernel_rfl
def carrefourref02_Add.T9 : Bool × List (List Nat × List Nat) := (true, [([], []), ([], []), ([0, 1], [0, 1]), ([2, 2], [2]), ([], []), ([], []), ([5], [5]), ([6], [6]), ([3, 4, 7, 3], [3, 4, 7]), ([8], [8]), ([8], [8]), ([9, 8, 0, 1, 2, 3, 4, 5, 6, 7, 8, 9, 10], [9]), ([10, 11, 0, 1, 2, 3, 4, 5, 6, 7, 8, 9, 10, 11], [10])])
def carrefourref02_Add.B9 : List Nat := [0, 0, 3, 7, 0, 0, 32, 96, 255, 511, 511, 2047, 4095]
theorem carrefourref02_Add.tab9 : rtab .any (opsOf Tryd.f11 9) = carrefourref02_Add.T9 := by kernel_rfl
theorem carrefourref02_Add.bits9 : waitsOk carrefourref02_Add.T9.2 carrefourref02_Add.B9 = true := by kernel_rfl
def carrefourref02_Add.T11 : Bool × List (List Nat × List Nat) := (true, [([], []), ([], []), ([0, 1], [0, 1]), ([2, 2], [2]), ([], []), ([], []), ([5], [5]), ([6], [6]), ([3, 4, 7, 3], [3, 4, 7]), ([8], [8]), ([8], [8]), ([9, 8, 0, 1, 2, 3, 4, 5, 6, 7, 8, 9, 10], [9]), ([10, 11, 0, 1, 2, 3, 4, 5, 6, 7, 8, 9, 10, 11], [10])])
def carrefourref02_Add.B11 : List Nat := [0, 0, 3, 7, 0, 0, 32, 96, 255, 511, 511, 2047, 4095]
theorem carrefourref02_Add.tab11 : rtab .any (opsOf Tryd.f11 11) = carrefourref02_Add.T11 := by kernel_rfl
theorem carrefourref02_Add.bits11 : waitsOk carrefourref02_Add.T11.2 carrefourref02_Add.B11 = true := by kernel_rfl
def carrefourref02_Add.T12 : Bool × List (List Nat × List Nat) := (true, [([], []), ([], []), ([0, 1], [0, 1]), ([2, 2], [2]), ([], []), ([], []), ([5], [5]), ([6], [6]), ([3, 4, 7, 3], [3, 4, 7]), ([8], [8]), ([8], [8]), ([9, 8, 0, 1, 2, 3, 4, 5, 6, 7, 8, 9, 10], [9]), ([10, 11, 0, 1, 2, 3, 4, 5, 6, 7, 8, 9, 10, 11], [10])])
def carrefourref02_Add.B12 : List Nat := [0, 0, 3, 7, 0, 0, 32, 96, 255, 511, 511, 2047, 4095]
theorem carrefourref02_Add.tab12 : rtab .any (opsOf Tryd.f11 12) = carrefourref02_Add.T12 := by kernel_rfl
theorem carrefourref02_Add.bits12 : waitsOk carrefourref02_Add.T12.2 carrefourref02_Add.B12 = true := by kernel_rfl
theorem carrefourref02_Add.calls (k : Nat) (a0_0 : Int) (a0_1 : Int) (a1_0 : Int) (a1_1 : Int) (r1 : Int) (r2 : Int) (r3 : Int) (w : World) (h : carrefourref02_Add.f k a0_0 a0_1 a1_0 a1_1 = some (r1, r2, r3)) :
    Calls Tryd.prog 11 #[.agg #[.int .i64 a0_0, .int .i64 a0_1], .agg #[.int .i64 a1_0, .int .i64 a1_1]] w fun e w' => e = .returned (.tuple #[.agg #[.int .i64 r1, .int .i64 r2], .int .i64 r3]) ∧ Below w.heap.size w w' := by
  have hu23 := Tryd.underlying23
  have HB := Aside0.mk (Below.refl w.heap.size w)
  have H : ((carrefourref02_Norm.f k a0_0 a0_1).bind fun bt455 => ((carrefourref02_Norm.f k a1_0 a1_1).bind fun bt457 => ((carrefourref02_few.f bt455.1 bt455.2 bt457.1 bt457.2).bind fun t459 => (if t459 = true then ((carrefourref02_Of.f k (wrap64 ((wrap64 (bt455.1 * bt457.2)) + (wrap64 (bt457.1 * bt455.2)))) (wrap64 (bt455.2 * bt457.2))).bind fun bt460 => (some (bt460.1, bt460.2.1, bt460.2.2))) else ((carrefourref01_Size.f bt455.1).bind fun t463 => ((carrefourref01_Times.f k t463 (IntKind.u64.wrap (bt457.2))).bind fun t464 => ((carrefourref02_trim.f k t464).bind fun t467 => ((carrefourref01_Size.f bt457.1).bind fun t470 => ((carrefourref01_Times.f k t470 (IntKind.u64.wrap (bt455.2))).bind fun t471 => ((carrefourref02_trim.f k t471).bind fun t474 => ((carrefourref01_Times.f k (IntKind.u64.wrap (bt455.2)) (IntKind.u64.wrap (bt457.2))).bind fun t477 => ((carrefourref02_trim.f k t477).bind fun t480 => (if ((decide (bt455.1 < 0)) == (decide (bt457.1 < 0))) = true then ((carrefourref01_Plus.f k t467 t474).bind fun t483 => ((carrefourref02_trim.f k t483).bind fun t486 => ((carrefourref02_lowest.f k t486 t480 (decide (bt455.1 < 0))).bind fun bt489 => (some (bt489.1, bt489.2.1, bt489.2.2))))) else ((carrefourref01_Order.f k t467 t474).bind fun t492 => (if t492 ≥ 0 then ((carrefourref01_Minus.f k t467 t474).bind fun t493 => ((carrefourref02_trim.f k t493).bind fun t496 => ((carrefourref02_lowest.f k t496 t480 (decide (bt455.1 < 0))).bind fun bt499 => (some (bt499.1, bt499.2.1, bt499.2.2))))) else ((carrefourref01_Minus.f k t474 t467).bind fun t502 => ((carrefourref02_trim.f k t502).bind fun t505 => ((carrefourref02_lowest.f k t505 t480 (decide (bt457.1 < 0))).bind fun bt508 => (some (bt508.1, bt508.2.1, bt508.2.2)))))))))))))))))))) = some (r1, r2, r3) := h
  clear h
  replace H := bi_ H; obtain ⟨⟨t455, t456⟩, A3, H⟩ := H
  (try dsimp only at H)
  replace H := bi_ H; obtain ⟨⟨t457, t458⟩, A4, H⟩ := H
  (try dsimp only at H)
  replace H := bi_ H; obtain ⟨t459, A5, H⟩ := H
  (try dsimp only at H)
  by_cases c6 : t459 = true
  · subst c6
    have H1 : ((carrefourref02_Of.f k (wrap64 ((wrap64 (t455 * t458)) + (wrap64 (t457 * t456)))) (wrap64 (t456 * t458))).bind fun bt460 => (some (bt460.1, bt460.2.1, bt460.2.2))) = some (r1, r2, r3) := by rw [if_pos rfl] at H; exact H
    clear H
    have H := H1
    clear H1
    replace H := bi_ H; obtain ⟨⟨t460, t461, t462⟩, A7, H⟩ := H
    (try dsimp only at H)
    simp only [Option.some.injEq, Prod.mk.injEq] at H
    obtain ⟨rfl, rfl, rfl⟩ := H
    go_enter Tryd.func11, Tryd.ntmps11
    go_wp2_with (first | ((with_reducible refine gd 2 rfl ?_); refine bx_ 2 23 #[.int .i64 a0_0, .int .i64 a0_1] rfl rfl ?_; intro gb452 hg w8 BK452 hb; have GE452 := bz HB hg; replace HB := bs HB hb; clear hb hg) | ((with_reducible refine gd 3 rfl ?_); refine bx_ 3 23 #[.int .i64 a1_0, .int .i64 a1_1] rfl rfl ?_; intro gb453 hg w9 BK453 hb; have GE453 := bz HB hg; have ⟨NB452_453, NB453_452⟩ := nb BK452 hg; replace BK452 := bb BK452 hb; replace HB := bs HB hb; clear hb hg) | ((with_reducible refine gd 4 rfl ?_); refine bx_ 4 23 #[.int .i64 0, .int .i64 0] rfl rfl ?_; intro gb454 hg w10 BK454 hb; have GE454 := bz HB hg; have ⟨NB452_454, NB454_452⟩ := nb BK452 hg; have ⟨NB453_454, NB454_453⟩ := nb BK453 hg; replace BK452 := bb BK452 hb; replace BK453 := bb BK453 hb; replace HB := bs HB hb; clear hb hg; have hnb11 := nn NB452_453; have hnb12 := nn NB452_454; have hcz13 := k2 BK452) | ((with_reducible refine gc 39 rfl ?_); refine gm_ (some 10) rfl rfl Tryd.func39 (carrefourref02_Norm.calls _ _ _ _ _ _ A3.out) ag ?_; intro w14 hb; replace BK452 := bb BK452 hb; replace BK453 := bb BK453 hb; replace BK454 := bb BK454 hb; replace HB := bs HB hb; (try clear hb); have hcz15 := k2 BK452; have hnb16 := nn NB453_454; have hcz17 := k2 BK453) | ((with_reducible refine gc 39 rfl ?_); refine gm_ (some 12) rfl rfl Tryd.func39 (carrefourref02_Norm.calls _ _ _ _ _ _ A4.out) ag ?_; intro w18 hb; replace BK452 := bp_ #[.int .i64 t455, .int .i64 t456] BK452 hb; replace BK453 := bb BK453 hb; replace BK454 := bb BK454 hb; replace HB := bs HB hb; (try clear hb); have hcz19 := k2 BK453; have hcz20 := k2 BK452) | ((with_reducible refine gc 40 rfl ?_); refine gm_ (some 15) rfl rfl Tryd.func40 (carrefourref02_few.calls _ _ _ _ _ _ A5.out) ag ?_; intro w21 hb; replace BK452 := bb BK452 hb; replace BK453 := bp_ #[.int .i64 t457, .int .i64 t458] BK453 hb; replace BK454 := bb BK454 hb; replace HB := bs HB hb; (try clear hb); have hcz22 := k2 BK452; have hcz23 := k2 BK453) | ((with_reducible refine gc 17 rfl ?_); refine gm_ (some 32) rfl rfl Tryd.func17 (carrefourref02_Of.calls _ (wrap64 ((wrap64 (t455 * t458)) + (wrap64 (t457 * t456)))) (wrap64 (t456 * t458)) _ _ _ _ A7.out) ag ?_; intro w24 hb; replace BK454 := bb BK454 hb; replace HB := bs HB hb; (try clear hb); have hcz25 := k2 BK454))
    refine bodyPost_ret (results_ct rfl _ _ gb454 23 #[.int .i64 t460, .int .i64 t461] (0, 0) _ rfl (br_ BK454) Tryd.underlying23 rfl (by kernel_rfl)) rfl ?_
    exact ⟨ae, bf HB⟩
  · replace c6 := Bool.eq_false_iff.mpr c6
    subst c6
    have H1 : ((carrefourref01_Size.f t455).bind fun t463 => ((carrefourref01_Times.f k t463 (IntKind.u64.wrap (t458))).bind fun t464 => ((carrefourref02_trim.f k t464).bind fun t467 => ((carrefourref01_Size.f t457).bind fun t470 => ((carrefourref01_Times.f k t470 (IntKind.u64.wrap (t456))).bind fun t471 => ((carrefourref02_trim.f k t471).bind fun t474 => ((carrefourref01_Times.f k (IntKind.u64.wrap (t456)) (IntKind.u64.wrap (t458))).bind fun t477 => ((carrefourref02_trim.f k t477).bind fun t480 => (if ((decide (t455 < 0)) == (decide (t457 < 0))) = true then ((carrefourref01_Plus.f k t467 t474).bind fun t483 => ((carrefourref02_trim.f k t483).bind fun t486 => ((carrefourref02_lowest.f k t486 t480 (decide (t455 < 0))).bind fun bt489 => (some (bt489.1, bt489.2.1, bt489.2.2))))) else ((carrefourref01_Order.f k t467 t474).bind fun t492 => (if t492 ≥ 0 then ((carrefourref01_Minus.f k t467 t474).bind fun t493 => ((carrefourref02_trim.f k t493).bind fun t496 => ((carrefourref02_lowest.f k t496 t480 (decide (t455 < 0))).bind fun bt499 => (some (bt499.1, bt499.2.1, bt499.2.2))))) else ((carrefourref01_Minus.f k t474 t467).bind fun t502 => ((carrefourref02_trim.f k t502).bind fun t505 => ((carrefourref02_lowest.f k t505 t480 (decide (t457 < 0))).bind fun bt508 => (some (bt508.1, bt508.2.1, bt508.2.2)))))))))))))))) = some (r1, r2, r3) := by rw [if_neg (show ¬ (false = true) by decide)] at H; exact H
    clear H
    have H := H1
    clear H1
    replace H := bi_ H; obtain ⟨t463, A26, H⟩ := H
    (try dsimp only at H)
    replace H := bi_ H; obtain ⟨t464, A27, H⟩ := H
    (try dsimp only at H)
    replace H := bi_ H; obtain ⟨t467, A28, H⟩ := H
    (try dsimp only at H)
    replace H := bi_ H; obtain ⟨t470, A29, H⟩ := H
    (try dsimp only at H)
    replace H := bi_ H; obtain ⟨t471, A30, H⟩ := H
    (try dsimp only at H)
    replace H := bi_ H; obtain ⟨t474, A31, H⟩ := H
    (try dsimp only at H)
    replace H := bi_ H; obtain ⟨t477, A32, H⟩ := H
    (try dsimp only at H)
    replace H := bi_ H; obtain ⟨t480, A33, H⟩ := H
    (try dsimp only at H)
    by_cases c34 : ((decide (t455 < 0)) == (decide (t457 < 0))) = true
    · rw [if_pos c34] at H
      have c34b0 : ((decide (t455 < 0)) == (decide (t457 < 0))) = true := c34
      (try (have c34b1 : decide ((decide (t455 < 0)) = (decide (t457 < 0))) = true := by simpa using c34))
      (try (have c34b2 : ((decide (t455 < 0)) == (decide (t457 < 0))) = true := by simpa using c34))
      clear c34
      replace H := bi_ H; obtain ⟨t483, A35, H⟩ := H
      (try dsimp only at H)
      replace H := bi_ H; obtain ⟨t486, A36, H⟩ := H
      (try dsimp only at H)
      replace H := bi_ H; obtain ⟨⟨t489, t490, t491⟩, A37, H⟩ := H
      (try dsimp only at H)
      simp only [Option.some.injEq, Prod.mk.injEq] at H
      obtain ⟨rfl, rfl, rfl⟩ := H
      go_enter Tryd.func11, Tryd.ntmps11
      try go_wp2_with (first | ((with_reducible refine gd 2 rfl ?_); refine bx_ 2 23 #[.int .i64 a0_0, .int .i64 a0_1] rfl rfl ?_; intro gb452 hg w38 BK452 hb; have GE452 := bz HB hg; replace HB := bs HB hb; clear hb hg) | ((with_reducible refine gd 3 rfl ?_); refine bx_ 3 23 #[.int .i64 a1_0, .int .i64 a1_1] rfl rfl ?_; intro gb453 hg w39 BK453 hb; have GE453 := bz HB hg; have ⟨NB452_453, NB453_452⟩ := nb BK452 hg; replace BK452 := bb BK452 hb; replace HB := bs HB hb; clear hb hg) | ((with_reducible refine gd 4 rfl ?_); refine bx_ 4 23 #[.int .i64 0, .int .i64 0] rfl rfl ?_; intro gb454 hg w40 BK454 hb; have GE454 := bz HB hg; have ⟨NB452_454, NB454_452⟩ := nb BK452 hg; have ⟨NB453_454, NB454_453⟩ := nb BK453 hg; replace BK452 := bb BK452 hb; replace BK453 := bb BK453 hb; replace HB := bs HB hb; clear hb hg; have hnb41 := nn NB452_453; have hnb42 := nn NB452_454; have hcz43 := k2 BK452) | ((with_reducible refine gc 39 rfl ?_); refine gm_ (some 10) rfl rfl Tryd.func39 (carrefourref02_Norm.calls _ _ _ _ _ _ A3.out) ag ?_; intro w44 hb; replace BK452 := bb BK452 hb; replace BK453 := bb BK453 hb; replace BK454 := bb BK454 hb; replace HB := bs HB hb; (try clear hb); have hcz45 := k2 BK452; have hnb46 := nn NB453_454; have hcz47 := k2 BK453) | ((with_reducible refine gc 39 rfl ?_); refine gm_ (some 12) rfl rfl Tryd.func39 (carrefourref02_Norm.calls _ _ _ _ _ _ A4.out) ag ?_; intro w48 hb; replace BK452 := bp_ #[.int .i64 t455, .int .i64 t456] BK452 hb; replace BK453 := bb BK453 hb; replace BK454 := bb BK454 hb; replace HB := bs HB hb; (try clear hb); have hcz49 := k2 BK453; have hcz50 := k2 BK452) | ((with_reducible refine gc 40 rfl ?_); refine gm_ (some 15) rfl rfl Tryd.func40 (carrefourref02_few.calls _ _ _ _ _ _ A5.out) ag ?_; intro w51 hb; replace BK452 := bb BK452 hb; replace BK453 := bp_ #[.int .i64 t457, .int .i64 t458] BK453 hb; replace BK454 := bb BK454 hb; replace HB := bs HB hb; (try clear hb)))
      replace BK452 := Aside0.mk (blk_drew BK452.out)
      replace BK453 := Aside0.mk (blk_drew BK453.out)
      replace BK454 := Aside0.mk (blk_drew BK454.out)
      replace HB := Aside0.mk (below_drew1 HB.out)
      refine start_ (n := 9) (S := fun w' => c_ w' gb452 0 (.int .i64 t455) ∧ c_ w' gb452 1 (.int .i64 t456) ∧ c_ w' gb453 0 (.int .i64 t457) ∧ c_ w' gb453 1 (.int .i64 t458)) (ds := []) (m_ 9 0) (by kernel_rfl) rfl rfl ⟨ct BK452 0, ct BK452 1, ct BK453 0, ct BK453 1⟩ (fun hHeld => ?_); refine with_tabW carrefourref02_Add.tab5 carrefourref02_Add.bits5 (fun HT_ HW_ => ?_)
      generalize w51.drew = w52 at BK452 BK453 BK454 HB hHeld ⊢
      refine pu_ 0 (some 35) (m_ 9 1) rfl rfl (ao HT_) ?_
      refine pu_ 3 (some 38) (m_ 9 9) rfl rfl (ao HT_) ?_
      refine tk_ 1 (some 36) (m_ 9 11) rfl rfl (tw HT_ HW_) hHeld ?_
      refine tk_ 4 (some 39) (m_ 9 27) rfl rfl (tw HT_ HW_) hHeld ?_
      refine pu_ 5 (some 40) (m_ 9 59) rfl rfl (ao HT_) ?_
      refine o1_ 2 (some 37) (m_ 9 63) rfl rfl (oo HT_) (fun K hK => ?_)
      refine gs_ rfl Tryd.func43 (carrefourref01_Size.calls _ _ _ A26.out) ag ?_
      rintro w' ⟨nd, rfl⟩
      refine hK.out _ _ ⟨ct BK452 0, ct BK452 1, ct BK453 0, ct BK453 1⟩ (fun hHeld => ?_)
      clear hK K
      refine nr_ (some 37) ?_
      refine o1_ 6 (some 41) (m_ 9 127) rfl rfl (oo HT_) (fun K hK => ?_)
      refine goes_ Tryd.func42 (by kernel_rfl) rfl #[.int .u64 t463, .int .u64 (IntKind.u64.wrap (t458))] (by rfl) rfl rfl ag ?_
      with_reducible refine (carrefourref01_Times.calls _ _ (IntKind.u64.wrap (t458)) _ _ A27.out).mono ?_
      rintro e w53 ⟨v465, rfl, ho0, hb⟩
      refine ⟨_, rfl, ?_⟩
      have HO466 := Aside0.mk (Kd.R_lower ho0 (below_size (bf HB)))
      replace BK452 := bb BK452 hb
      replace BK453 := bb BK453 hb
      replace BK454 := bb BK454 hb
      replace HB := bs HB hb
      (try clear hb); (try clear ho0)
      obtain ⟨Ao54, co54, eo54⟩ := Kd.R_slice HO466.out
      (first | subst eo54 | (injection eo54 with f1_ f2_ f3_; have f4_ := f1_.symm; have f5_ := f3_.symm; clear f1_ f2_ f3_; subst f4_; subst f5_))
      refine hK.out _ _ ⟨ct BK452 0, ct BK452 1, ct BK453 0, ct BK453 1⟩ (fun hHeld => ?_)
      clear hK K
      refine nr_ (some 41) ?_
      refine o1_ 7 (some 42) (m_ 9 255) rfl rfl (oo HT_) (fun K hK => ?_)
      refine goes_ Tryd.func41 (by kernel_rfl) rfl #[.slice Ao54 t464.length co54] (by rfl) rfl rfl ag ?_
      with_reducible refine (carrefourref02_trim.calls _ _ _ _ _ _ ?side1 ?side2 A28.out).mono ?_
      (case side1 => exact rc HO466)
      (case side2 => exact (Kd.R_reads' HO466.out).2.1)
      rintro e w55 ⟨v468, rfl, ho0, hb⟩
      refine ⟨_, rfl, ?_⟩
      have HO469 := Aside0.mk (Kd.R_lower (Kd.R_new' ho0 (rl HO466)) (below_size (bf HB)))
      replace HO466 := re_ HO466 (Kd.R_base ho0) hb
      replace BK452 := bb BK452 hb
      replace BK453 := bb BK453 hb
      replace BK454 := bb BK454 hb
      replace HB := bs HB hb
      (try clear hb); (try clear ho0)
      refine hK.out _ _ ⟨ct BK452 0, ct BK452 1, ct BK453 0, ct BK453 1⟩ (fun hHeld => ?_)
      clear hK K
      refine nr_ (some 42) ?_
      refine pu_ 8 (some 6) (m_ 9 511) rfl rfl (ao HT_) ?_
      refine done_ (done_of HT_.out (by kernel_rfl)) ?_
      try go_wp2
      replace HO466 := Aside0.mk (Kd.R_drew HO466.out)
      replace HO469 := Aside0.mk (Kd.R_drew HO469.out)
      replace BK452 := Aside0.mk (blk_drew BK452.out)
      replace BK453 := Aside0.mk (blk_drew BK453.out)
      replace BK454 := Aside0.mk (blk_drew BK454.out)
      replace HB := Aside0.mk (below_drew1 HB.out)
      refine start_ (n := 9) (S := fun w' => c_ w' gb453 0 (.int .i64 t457) ∧ c_ w' gb453 1 (.int .i64 t458) ∧ c_ w' gb452 0 (.int .i64 t455) ∧ c_ w' gb452 1 (.int .i64 t456)) (ds := []) (m_ 9 0) (by kernel_rfl) rfl rfl ⟨ct BK453 0, ct BK453 1, ct BK452 0, ct BK452 1⟩ (fun hHeld => ?_); refine with_tabW carrefourref02_Add.tab6 carrefourref02_Add.bits6 (fun HT_ HW_ => ?_)
      generalize w55.drew = w56 at HO466 HO469 BK452 BK453 BK454 HB hHeld ⊢
      refine pu_ 0 (some 43) (m_ 9 1) rfl rfl (ao HT_) ?_
      refine pu_ 3 (some 46) (m_ 9 9) rfl rfl (ao HT_) ?_
      refine tk_ 1 (some 44) (m_ 9 11) rfl rfl (tw HT_ HW_) hHeld ?_
      refine tk_ 4 (some 47) (m_ 9 27) rfl rfl (tw HT_ HW_) hHeld ?_
      refine pu_ 5 (some 48) (m_ 9 59) rfl rfl (ao HT_) ?_
      refine o1_ 2 (some 45) (m_ 9 63) rfl rfl (oo HT_) (fun K hK => ?_)
      refine gs_ rfl Tryd.func43 (carrefourref01_Size.calls _ _ _ A29.out) ag ?_
      rintro w' ⟨nd, rfl⟩
      refine hK.out _ _ ⟨ct BK453 0, ct BK453 1, ct BK452 0, ct BK452 1⟩ (fun hHeld => ?_)
      clear hK K
      refine nr_ (some 45) ?_
      refine o1_ 6 (some 49) (m_ 9 127) rfl rfl (oo HT_) (fun K hK => ?_)
      refine goes_ Tryd.func42 (by kernel_rfl) rfl #[.int .u64 t470, .int .u64 (IntKind.u64.wrap (t456))] (by rfl) rfl rfl ag ?_
      with_reducible refine (carrefourref01_Times.calls _ _ (IntKind.u64.wrap (t456)) _ _ A30.out).mono ?_
      rintro e w57 ⟨v472, rfl, ho0, hb⟩
      refine ⟨_, rfl, ?_⟩
      have HO473 := Aside0.mk (Kd.R_lower (Kd.R_new' (Kd.R_new' ho0 (rl HO466)) (rl HO469)) (below_size (bf HB)))
      replace HO466 := re_ HO466 (Kd.R_base ho0) hb
      replace HO469 := re_ HO469 (Kd.R_base ho0) hb
      replace BK452 := bb BK452 hb
      replace BK453 := bb BK453 hb
      replace BK454 := bb BK454 hb
      replace HB := bs HB hb
      (try clear hb); (try clear ho0)
      obtain ⟨Ao58, co58, eo58⟩ := Kd.R_slice HO473.out
      (first | subst eo58 | (injection eo58 with f1_ f2_ f3_; have f4_ := f1_.symm; have f5_ := f3_.symm; clear f1_ f2_ f3_; subst f4_; subst f5_))
      refine hK.out _ _ ⟨ct BK453 0, ct BK453 1, ct BK452 0, ct BK452 1⟩ (fun hHeld => ?_)
      clear hK K
      refine nr_ (some 49) ?_
      refine o1_ 7 (some 50) (m_ 9 255) rfl rfl (oo HT_) (fun K hK => ?_)
      refine goes_ Tryd.func41 (by kernel_rfl) rfl #[.slice Ao58 t471.length co58] (by rfl) rfl rfl ag ?_
      with_reducible refine (carrefourref02_trim.calls _ _ _ _ _ _ ?side1 ?side2 A31.out).mono ?_
      (case side1 => exact rc HO473)
      (case side2 => exact (Kd.R_reads' HO473.out).2.1)
      rintro e w59 ⟨v475, rfl, ho0, hb⟩
      refine ⟨_, rfl, ?_⟩
      have HO476 := Aside0.mk (Kd.R_lower (Kd.R_new' (Kd.R_new' (Kd.R_new' ho0 (rl HO466)) (rl HO469)) (rl HO473)) (below_size (bf HB)))
      replace HO466 := re_ HO466 (Kd.R_base ho0) hb
      replace HO469 := re_ HO469 (Kd.R_base ho0) hb
      replace HO473 := re_ HO473 (Kd.R_base ho0) hb
      replace BK452 := bb BK452 hb
      replace BK453 := bb BK453 hb
      replace BK454 := bb BK454 hb
      replace HB := bs HB hb
      (try clear hb); (try clear ho0)
      refine hK.out _ _ ⟨ct BK453 0, ct BK453 1, ct BK452 0, ct BK452 1⟩ (fun hHeld => ?_)
      clear hK K
      refine nr_ (some 50) ?_
      refine pu_ 8 (some 7) (m_ 9 511) rfl rfl (ao HT_) ?_
      refine done_ (done_of HT_.out (by kernel_rfl)) ?_
      have hcz60 := k2 BK452
      have hcz61 := k2 BK453
      try go_wp2_with (first | ((with_reducible refine gc 42 rfl ?_); refine gl_ (some 57) rfl rfl Tryd.func42 ((carrefourref01_Times.calls _ (IntKind.u64.wrap (t456)) (IntKind.u64.wrap (t458)) _ _ A32.out).mono ?_) ag; rintro e w62 ⟨v478, rfl, ho0, hb⟩; refine ⟨_, rfl, ?_⟩; have HO479 := Aside0.mk (Kd.R_lower (Kd.R_new' (Kd.R_new' (Kd.R_new' (Kd.R_new' ho0 (rl HO466)) (rl HO469)) (rl HO473)) (rl HO476)) (below_size (bf HB))); replace HO466 := re_ HO466 (Kd.R_base ho0) hb; replace HO469 := re_ HO469 (Kd.R_base ho0) hb; replace HO473 := re_ HO473 (Kd.R_base ho0) hb; replace HO476 := re_ HO476 (Kd.R_base ho0) hb; replace BK452 := bb BK452 hb; replace BK453 := bb BK453 hb; replace BK454 := bb BK454 hb; replace HB := bs HB hb; (try clear hb); (try clear ho0); obtain ⟨Ao63, co63, eo63⟩ := Kd.R_slice HO479.out; subst eo63) | ((with_reducible refine gc 41 rfl ?_); refine gl_ (some 58) rfl rfl Tryd.func41 ((carrefourref02_trim.calls _ _ _ _ _ _ ?side1 ?side2 A33.out).mono ?_) ag; (case side1 => exact rc HO479); (case side2 => exact (Kd.R_reads' HO479.out).2.1); rintro e w64 ⟨v481, rfl, ho0, hb⟩; refine ⟨_, rfl, ?_⟩; have HO482 := Aside0.mk (Kd.R_lower (Kd.R_new' (Kd.R_new' (Kd.R_new' (Kd.R_new' (Kd.R_new' ho0 (rl HO466)) (rl HO469)) (rl HO473)) (rl HO476)) (rl HO479)) (below_size (bf HB))); replace HO466 := re_ HO466 (Kd.R_base ho0) hb; replace HO469 := re_ HO469 (Kd.R_base ho0) hb; replace HO473 := re_ HO473 (Kd.R_base ho0) hb; replace HO476 := re_ HO476 (Kd.R_base ho0) hb; replace HO479 := re_ HO479 (Kd.R_base ho0) hb; replace BK452 := bb BK452 hb; replace BK453 := bb BK453 hb; replace BK454 := bb BK454 hb; replace HB := bs HB hb; (try clear hb); (try clear ho0); have hcz65 := k2 BK452; have hcz66 := k2 BK453))
      replace HO466 := Aside0.mk (Kd.R_drew HO466.out)
      replace HO469 := Aside0.mk (Kd.R_drew HO469.out)
      replace HO473 := Aside0.mk (Kd.R_drew HO473.out)
      replace HO476 := Aside0.mk (Kd.R_drew HO476.out)
      replace HO479 := Aside0.mk (Kd.R_drew HO479.out)
      replace HO482 := Aside0.mk (Kd.R_drew HO482.out)
      replace BK452 := Aside0.mk (blk_drew BK452.out)
      replace BK453 := Aside0.mk (blk_drew BK453.out)
      replace BK454 := Aside0.mk (blk_drew BK454.out)
      replace HB := Aside0.mk (below_drew1 HB.out)
      obtain ⟨Ao68, co68, eo68⟩ := Kd.R_slice HO469.out
      (first | subst eo68 | (injection eo68 with f1_ f2_ f3_; have f4_ := f1_.symm; have f5_ := f3_.symm; clear f1_ f2_ f3_; subst f4_; subst f5_))
      obtain ⟨Ao69, co69, eo69⟩ := Kd.R_slice HO476.out
      (first | subst eo69 | (injection eo69 with f1_ f2_ f3_; have f4_ := f1_.symm; have f5_ := f3_.symm; clear f1_ f2_ f3_; subst f4_; subst f5_))
      refine start_ (n := 13) (S := fun w' => c_ w' gb452 0 (.int .i64 t455) ∧ c_ w' gb452 1 (.int .i64 t456)) (ds := []) (m_ 13 0) (by kernel_rfl) rfl rfl ⟨ct BK452 0, ct BK452 1⟩ (fun hHeld => ?_); refine with_tabW carrefourref02_Add.tab9 carrefourref02_Add.bits9 (fun HT_ HW_ => ?_)
      generalize w64.drew = w67 at HO466 HO469 HO473 HO476 HO479 HO482 BK452 BK453 BK454 HB hHeld ⊢
      refine pu_ 0 (some 66) (m_ 13 1) rfl rfl (ao HT_) ?_
      refine pu_ 1 (some 67) (m_ 13 3) rfl rfl (ao HT_) ?_
      refine pu_ 4 (some 70) (m_ 13 19) rfl rfl (ao HT_) ?_
      refine pu_ 5 (some 71) (m_ 13 51) rfl rfl (ao HT_) ?_
      refine tk_ 6 (some 72) (m_ 13 115) rfl rfl (tw HT_ HW_) hHeld ?_
      refine pu_ 7 (some 73) (m_ 13 243) rfl rfl (ao HT_) ?_
      refine o1_ 2 (some 68) (m_ 13 247) rfl rfl (oo HT_) (fun K hK => ?_)
      refine goes_ Tryd.func45 (by kernel_rfl) rfl #[.slice Ao68 t467.length co68, .slice Ao69 t474.length co69] (by rfl) rfl rfl ag ?_
      with_reducible refine (carrefourref01_Plus.calls _ _ _ _ _ _ _ _ _ ?side1 ?side2 ?side3 ?side4 A35.out).mono ?_
      (case side1 => exact rc HO469)
      (case side2 => exact (Kd.R_reads' HO469.out).2.1)
      (case side3 => exact rc HO476)
      (case side4 => exact (Kd.R_reads' HO476.out).2.1)
      rintro e w70 ⟨v484, rfl, ho0, hb⟩
      refine ⟨_, rfl, ?_⟩
      have HO485 := Aside0.mk (Kd.R_lower (Kd.R_new' (Kd.R_new' (Kd.R_new' (Kd.R_new' (Kd.R_new' (Kd.R_new' ho0 (rl HO466)) (rl HO469)) (rl HO473)) (rl HO476)) (rl HO479)) (rl HO482)) (below_size (bf HB)))
      replace HO466 := re_ HO466 (Kd.R_base ho0) hb
      replace HO469 := re_ HO469 (Kd.R_base ho0) hb
      replace HO473 := re_ HO473 (Kd.R_base ho0) hb
      replace HO476 := re_ HO476 (Kd.R_base ho0) hb
      replace HO479 := re_ HO479 (Kd.R_base ho0) hb
      replace HO482 := re_ HO482 (Kd.R_base ho0) hb
      replace BK452 := bb BK452 hb
      replace BK453 := bb BK453 hb
      replace BK454 := bb BK454 hb
      replace HB := bs HB hb
      (try clear hb); (try clear ho0)
      obtain ⟨Ao71, co71, eo71⟩ := Kd.R_slice HO485.out
      (first | subst eo71 | (injection eo71 with f1_ f2_ f3_; have f4_ := f1_.symm; have f5_ := f3_.symm; clear f1_ f2_ f3_; subst f4_; subst f5_))
      refine hK.out _ _ ⟨ct BK452 0, ct BK452 1⟩ (fun hHeld => ?_)
      clear hK K
      refine nr_ (some 68) ?_
      refine o1_ 3 (some 69) (m_ 13 255) rfl rfl (oo HT_) (fun K hK => ?_)
      refine goes_ Tryd.func41 (by kernel_rfl) rfl #[.slice Ao71 t483.length co71] (by rfl) rfl rfl ag ?_
      with_reducible refine (carrefourref02_trim.calls _ _ _ _ _ _ ?side1 ?side2 A36.out).mono ?_
      (case side1 => exact rc HO485)
      (case side2 => exact (Kd.R_reads' HO485.out).2.1)
      rintro e w72 ⟨v487, rfl, ho0, hb⟩
      refine ⟨_, rfl, ?_⟩
      have HO488 := Aside0.mk (Kd.R_lower (Kd.R_new' (Kd.R_new' (Kd.R_new' (Kd.R_new' (Kd.R_new' (Kd.R_new' (Kd.R_new' ho0 (rl HO466)) (rl HO469)) (rl HO473)) (rl HO476)) (rl HO479)) (rl HO482)) (rl HO485)) (below_size (bf HB)))
      replace HO466 := re_ HO466 (Kd.R_base ho0) hb
      replace HO469 := re_ HO469 (Kd.R_base ho0) hb
      replace HO473 := re_ HO473 (Kd.R_base ho0) hb
      replace HO476 := re_ HO476 (Kd.R_base ho0) hb
      replace HO479 := re_ HO479 (Kd.R_base ho0) hb
      replace HO482 := re_ HO482 (Kd.R_base ho0) hb
      replace HO485 := re_ HO485 (Kd.R_base ho0) hb
      replace BK452 := bb BK452 hb
      replace BK453 := bb BK453 hb
      replace BK454 := bb BK454 hb
      replace HB := bs HB hb
      (try clear hb); (try clear ho0)
      obtain ⟨Ao73, co73, eo73⟩ := Kd.R_slice HO488.out
      (first | subst eo73 | (injection eo73 with f1_ f2_ f3_; have f4_ := f1_.symm; have f5_ := f3_.symm; clear f1_ f2_ f3_; subst f4_; subst f5_))
      obtain ⟨Ao74, co74, eo74⟩ := Kd.R_slice HO482.out
      (first | subst eo74 | (injection eo74 with f1_ f2_ f3_; have f4_ := f1_.symm; have f5_ := f3_.symm; clear f1_ f2_ f3_; subst f4_; subst f5_))
      refine hK.out _ _ ⟨ct BK452 0, ct BK452 1⟩ (fun hHeld => ?_)
      clear hK K
      refine nr_ (some 69) ?_
      refine o1_ 8 (some 74) (m_ 13 511) rfl rfl (oo HT_) (fun K hK => ?_)
      refine gs_ rfl Tryd.func44 (carrefourref02_lowest.calls _ (fun k_ => some k_ = (.slice Ao73 t486.length co73 : Value).ownBlock) _ _ _ (fun k_ => some k_ = (.slice Ao74 t480.length co74 : Value).ownBlock) _ _ _ (decide (t455 < 0)) _ _ _ _ ?side1 ?side2 A37.out) ag ?_
      (case side1 => exact Kd.R_V (Kd.R_tight rfl (Kd.R_types (Kd.R_types (Kd.R_types (HO488.out) BK452.out (by decide)) BK453.out (by decide)) BK454.out (by decide))))
      (case side2 => exact Kd.R_V (Kd.R_tight rfl (Kd.R_types (Kd.R_types (Kd.R_types (HO482.out) BK452.out (by decide)) BK453.out (by decide)) BK454.out (by decide))))
      intro w75 hb
      replace HO466 := rb HO466 hb
      replace HO469 := rb HO469 hb
      replace HO473 := rb HO473 hb
      replace HO476 := rb HO476 hb
      replace HO479 := rb HO479 hb
      replace HO482 := rb HO482 hb
      replace HO485 := rb HO485 hb
      replace HO488 := rb HO488 hb
      replace BK452 := bb BK452 hb
      replace BK454 := bb BK454 hb
      replace HB := bs HB hb
      (try clear hb)
      refine hK.out _ _ ⟨ct BK452 0, ct BK452 1⟩ (fun hHeld => ?_)
      clear hK K
      refine nr_ (some 74) ?_
      refine pu_ 9 (some 75) (m_ 13 1023) rfl rfl (ao HT_) ?_
      refine pu_ 10 (some 76) (m_ 13 2047) rfl rfl (ao HT_) ?_
      refine o1_ 11 (none) (m_ 13 4095) rfl rfl (oo HT_) (fun K hK => ?_)
      have hs76 : c_ w75 gb454 0 (.int .i64 0) := ct BK454 0
      have hfs76 := blk_frozen BK454.out 0
      have hns76_0 := NB452_454.out
      have hns76_1 := NB453_454.out
      have hms76_0 := NB454_452.out
      have hms76_1 := NB454_453.out
      have hs77 : c_ w75 gb454 1 (.int .i64 0) := ct BK454 1
      have hfs77 := blk_frozen BK454.out 1
      have hns77_0 := NB452_454.out
      have hns77_1 := NB453_454.out
      have hms77_0 := NB454_452.out
      have hms77_1 := NB454_453.out
      refine skip_ (w1 := ?_) (by rfl) rfl ?_ ?_
      rotate_left
      · go_simp
        rfl
      refine hK.out _ _ ⟨((cell_far (p := ⟨gb454, _, none⟩) NB452_454.out _).trans (((cell_far (p := ⟨gb454, _, none⟩) NB452_454.out _).trans (hHeld.1)))), ((cell_far (p := ⟨gb454, _, none⟩) NB452_454.out _).trans (((cell_far (p := ⟨gb454, _, none⟩) NB452_454.out _).trans (hHeld.2))))⟩ (fun hHeld => ?_)
      clear hK K
      refine pu_ 12 (some 5) (m_ 13 8191) rfl rfl (ao HT_) ?_
      refine done_ (done_of HT_.out (by kernel_rfl)) ?_
      try go_wp2
      refine bodyPost_ret (results_ct rfl _ _ gb454 23 #[.int .i64 t489, .int .i64 t490] (0, 0) _ rfl (br_ BK454) Tryd.underlying23 rfl (by kernel_rfl)) rfl ?_
      exact ⟨ae, bf HB⟩
    · rw [if_neg c34] at H
      have c34b0 : ((decide (t455 < 0)) == (decide (t457 < 0))) = false := by simpa using c34
      (try (have c34b1 : decide ((decide (t455 < 0)) = (decide (t457 < 0))) = false := by simpa using c34))
      (try (have c34b2 : ((decide (t455 < 0)) == (decide (t457 < 0))) = false := by simpa using c34))
      (try (have c34b3 : ¬ ((decide (t455 < 0)) = (decide (t457 < 0))) := by simpa using c34))
      clear c34
      replace H := bi_ H; obtain ⟨t492, A78, H⟩ := H
      (try dsimp only at H)
      by_cases c79 : t492 ≥ 0
      · rw [if_pos c79] at H
        have c79b0 : decide (0 ≤ t492) = true := decide_eq_true c79
        clear c79
        replace H := bi_ H; obtain ⟨t493, A80, H⟩ := H
        (try dsimp only at H)
        replace H := bi_ H; obtain ⟨t496, A81, H⟩ := H
        (try dsimp only at H)
        replace H := bi_ H; obtain ⟨⟨t499, t500, t501⟩, A82, H⟩ := H
        (try dsimp only at H)
        simp only [Option.some.injEq, Prod.mk.injEq] at H
        obtain ⟨rfl, rfl, rfl⟩ := H
        go_enter Tryd.func11, Tryd.ntmps11
        try go_wp2_with (first | ((with_reducible refine gd 2 rfl ?_); refine bx_ 2 23 #[.int .i64 a0_0, .int .i64 a0_1] rfl rfl ?_; intro gb452 hg w83 BK452 hb; have GE452 := bz HB hg; replace HB := bs HB hb; clear hb hg) | ((with_reducible refine gd 3 rfl ?_); refine bx_ 3 23 #[.int .i64 a1_0, .int .i64 a1_1] rfl rfl ?_; intro gb453 hg w84 BK453 hb; have GE453 := bz HB hg; have ⟨NB452_453, NB453_452⟩ := nb BK452 hg; replace BK452 := bb BK452 hb; replace HB := bs HB hb; clear hb hg) | ((with_reducible refine gd 4 rfl ?_); refine bx_ 4 23 #[.int .i64 0, .int .i64 0] rfl rfl ?_; intro gb454 hg w85 BK454 hb; have GE454 := bz HB hg; have ⟨NB452_454, NB454_452⟩ := nb BK452 hg; have ⟨NB453_454, NB454_453⟩ := nb BK453 hg; replace BK452 := bb BK452 hb; replace BK453 := bb BK453 hb; replace HB := bs HB hb; clear hb hg; have hnb86 := nn NB452_453; have hnb87 := nn NB452_454; have hcz88 := k2 BK452) | ((with_reducible refine gc 39 rfl ?_); refine gm_ (some 10) rfl rfl Tryd.func39 (carrefourref02_Norm.calls _ _ _ _ _ _ A3.out) ag ?_; intro w89 hb; replace BK452 := bb BK452 hb; replace BK453 := bb BK453 hb; replace BK454 := bb BK454 hb; replace HB := bs HB hb; (try clear hb); have hcz90 := k2 BK452; have hnb91 := nn NB453_454; have hcz92 := k2 BK453) | ((with_reducible refine gc 39 rfl ?_); refine gm_ (some 12) rfl rfl Tryd.func39 (carrefourref02_Norm.calls _ _ _ _ _ _ A4.out) ag ?_; intro w93 hb; replace BK452 := bp_ #[.int .i64 t455, .int .i64 t456] BK452 hb; replace BK453 := bb BK453 hb; replace BK454 := bb BK454 hb; replace HB := bs HB hb; (try clear hb); have hcz94 := k2 BK453; have hcz95 := k2 BK452) | ((with_reducible refine gc 40 rfl ?_); refine gm_ (some 15) rfl rfl Tryd.func40 (carrefourref02_few.calls _ _ _ _ _ _ A5.out) ag ?_; intro w96 hb; replace BK452 := bb BK452 hb; replace BK453 := bp_ #[.int .i64 t457, .int .i64 t458] BK453 hb; replace BK454 := bb BK454 hb; replace HB := bs HB hb; (try clear hb)))
        replace BK452 := Aside0.mk (blk_drew BK452.out)
        replace BK453 := Aside0.mk (blk_drew BK453.out)
        replace BK454 := Aside0.mk (blk_drew BK454.out)
        replace HB := Aside0.mk (below_drew1 HB.out)
        refine start_ (n := 9) (S := fun w' => c_ w' gb452 0 (.int .i64 t455) ∧ c_ w' gb452 1 (.int .i64 t456) ∧ c_ w' gb453 0 (.int .i64 t457) ∧ c_ w' gb453 1 (.int .i64 t458)) (ds := []) (m_ 9 0) (by kernel_rfl) rfl rfl ⟨ct BK452 0, ct BK452 1, ct BK453 0, ct BK453 1⟩ (fun hHeld => ?_); refine with_tabW carrefourref02_Add.tab5 carrefourref02_Add.bits5 (fun HT_ HW_ => ?_)
        generalize w96.drew = w97 at BK452 BK453 BK454 HB hHeld ⊢
        refine pu_ 0 (some 35) (m_ 9 1) rfl rfl (ao HT_) ?_
        refine pu_ 3 (some 38) (m_ 9 9) rfl rfl (ao HT_) ?_
        refine tk_ 1 (some 36) (m_ 9 11) rfl rfl (tw HT_ HW_) hHeld ?_
        refine tk_ 4 (some 39) (m_ 9 27) rfl rfl (tw HT_ HW_) hHeld ?_
        refine pu_ 5 (some 40) (m_ 9 59) rfl rfl (ao HT_) ?_
        refine o1_ 2 (some 37) (m_ 9 63) rfl rfl (oo HT_) (fun K hK => ?_)
        refine gs_ rfl Tryd.func43 (carrefourref01_Size.calls _ _ _ A26.out) ag ?_
        rintro w' ⟨nd, rfl⟩
        refine hK.out _ _ ⟨ct BK452 0, ct BK452 1, ct BK453 0, ct BK453 1⟩ (fun hHeld => ?_)
        clear hK K
        refine nr_ (some 37) ?_
        refine o1_ 6 (some 41) (m_ 9 127) rfl rfl (oo HT_) (fun K hK => ?_)
        refine goes_ Tryd.func42 (by kernel_rfl) rfl #[.int .u64 t463, .int .u64 (IntKind.u64.wrap (t458))] (by rfl) rfl rfl ag ?_
        with_reducible refine (carrefourref01_Times.calls _ _ (IntKind.u64.wrap (t458)) _ _ A27.out).mono ?_
        rintro e w98 ⟨v465, rfl, ho0, hb⟩
        refine ⟨_, rfl, ?_⟩
        have HO466 := Aside0.mk (Kd.R_lower ho0 (below_size (bf HB)))
        replace BK452 := bb BK452 hb
        replace BK453 := bb BK453 hb
        replace BK454 := bb BK454 hb
        replace HB := bs HB hb
        (try clear hb); (try clear ho0)
        obtain ⟨Ao99, co99, eo99⟩ := Kd.R_slice HO466.out
        (first | subst eo99 | (injection eo99 with f1_ f2_ f3_; have f4_ := f1_.symm; have f5_ := f3_.symm; clear f1_ f2_ f3_; subst f4_; subst f5_))
        refine hK.out _ _ ⟨ct BK452 0, ct BK452 1, ct BK453 0, ct BK453 1⟩ (fun hHeld => ?_)
        clear hK K
        refine nr_ (some 41) ?_
        refine o1_ 7 (some 42) (m_ 9 255) rfl rfl (oo HT_) (fun K hK => ?_)
        refine goes_ Tryd.func41 (by kernel_rfl) rfl #[.slice Ao99 t464.length co99] (by rfl) rfl rfl ag ?_
        with_reducible refine (carrefourref02_trim.calls _ _ _ _ _ _ ?side1 ?side2 A28.out).mono ?_
        (case side1 => exact rc HO466)
        (case side2 => exact (Kd.R_reads' HO466.out).2.1)
        rintro e w100 ⟨v468, rfl, ho0, hb⟩
        refine ⟨_, rfl, ?_⟩
        have HO469 := Aside0.mk (Kd.R_lower (Kd.R_new' ho0 (rl HO466)) (below_size (bf HB)))
        replace HO466 := re_ HO466 (Kd.R_base ho0) hb
        replace BK452 := bb BK452 hb
        replace BK453 := bb BK453 hb
        replace BK454 := bb BK454 hb
        replace HB := bs HB hb
        (try clear hb); (try clear ho0)
        refine hK.out _ _ ⟨ct BK452 0, ct BK452 1, ct BK453 0, ct BK453 1⟩ (fun hHeld => ?_)
        clear hK K
        refine nr_ (some 42) ?_
        refine pu_ 8 (some 6) (m_ 9 511) rfl rfl (ao HT_) ?_
        refine done_ (done_of HT_.out (by kernel_rfl)) ?_
        try go_wp2
        replace HO466 := Aside0.mk (Kd.R_drew HO466.out)
        replace HO469 := Aside0.mk (Kd.R_drew HO469.out)
        replace BK452 := Aside0.mk (blk_drew BK452.out)
        replace BK453 := Aside0.mk (blk_drew BK453.out)
        replace BK454 := Aside0.mk (blk_drew BK454.out)
        replace HB := Aside0.mk (below_drew1 HB.out)
        refine start_ (n := 9) (S := fun w' => c_ w' gb453 0 (.int .i64 t457) ∧ c_ w' gb453 1 (.int .i64 t458) ∧ c_ w' gb452 0 (.int .i64 t455) ∧ c_ w' gb452 1 (.int .i64 t456)) (ds := []) (m_ 9 0) (by kernel_rfl) rfl rfl ⟨ct BK453 0, ct BK453 1, ct BK452 0, ct BK452 1⟩ (fun hHeld => ?_); refine with_tabW carrefourref02_Add.tab6 carrefourref02_Add.bits6 (fun HT_ HW_ => ?_)
        generalize w100.drew = w101 at HO466 HO469 BK452 BK453 BK454 HB hHeld ⊢
        refine pu_ 0 (some 43) (m_ 9 1) rfl rfl (ao HT_) ?_
        refine pu_ 3 (some 46) (m_ 9 9) rfl rfl (ao HT_) ?_
        refine tk_ 1 (some 44) (m_ 9 11) rfl rfl (tw HT_ HW_) hHeld ?_
        refine tk_ 4 (some 47) (m_ 9 27) rfl rfl (tw HT_ HW_) hHeld ?_
        refine pu_ 5 (some 48) (m_ 9 59) rfl rfl (ao HT_) ?_
        refine o1_ 2 (some 45) (m_ 9 63) rfl rfl (oo HT_) (fun K hK => ?_)
        refine gs_ rfl Tryd.func43 (carrefourref01_Size.calls _ _ _ A29.out) ag ?_
        rintro w' ⟨nd, rfl⟩
        refine hK.out _ _ ⟨ct BK453 0, ct BK453 1, ct BK452 0, ct BK452 1⟩ (fun hHeld => ?_)
        clear hK K
        refine nr_ (some 45) ?_
        refine o1_ 6 (some 49) (m_ 9 127) rfl rfl (oo HT_) (fun K hK => ?_)
        refine goes_ Tryd.func42 (by kernel_rfl) rfl #[.int .u64 t470, .int .u64 (IntKind.u64.wrap (t456))] (by rfl) rfl rfl ag ?_
        with_reducible refine (carrefourref01_Times.calls _ _ (IntKind.u64.wrap (t456)) _ _ A30.out).mono ?_
        rintro e w102 ⟨v472, rfl, ho0, hb⟩
        refine ⟨_, rfl, ?_⟩
        have HO473 := Aside0.mk (Kd.R_lower (Kd.R_new' (Kd.R_new' ho0 (rl HO466)) (rl HO469)) (below_size (bf HB)))
        replace HO466 := re_ HO466 (Kd.R_base ho0) hb
        replace HO469 := re_ HO469 (Kd.R_base ho0) hb
        replace BK452 := bb BK452 hb
        replace BK453 := bb BK453 hb
        replace BK454 := bb BK454 hb
        replace HB := bs HB hb
        (try clear hb); (try clear ho0)
        obtain ⟨Ao103, co103, eo103⟩ := Kd.R_slice HO473.out
        (first | subst eo103 | (injection eo103 with f1_ f2_ f3_; have f4_ := f1_.symm; have f5_ := f3_.symm; clear f1_ f2_ f3_; subst f4_; subst f5_))
        refine hK.out _ _ ⟨ct BK453 0, ct BK453 1, ct BK452 0, ct BK452 1⟩ (fun hHeld => ?_)
        clear hK K
        refine nr_ (some 49) ?_
        refine o1_ 7 (some 50) (m_ 9 255) rfl rfl (oo HT_) (fun K hK => ?_)
        refine goes_ Tryd.func41 (by kernel_rfl) rfl #[.slice Ao103 t471.length co103] (by rfl) rfl rfl ag ?_
        with_reducible refine (carrefourref02_trim.calls _ _ _ _ _ _ ?side1 ?side2 A31.out).mono ?_
        (case side1 => exact rc HO473)
        (case side2 => exact (Kd.R_reads' HO473.out).2.1)
        rintro e w104 ⟨v475, rfl, ho0, hb⟩
        refine ⟨_, rfl, ?_⟩
        have HO476 := Aside0.mk (Kd.R_lower (Kd.R_new' (Kd.R_new' (Kd.R_new' ho0 (rl HO466)) (rl HO469)) (rl HO473)) (below_size (bf HB)))
        replace HO466 := re_ HO466 (Kd.R_base ho0) hb
        replace HO469 := re_ HO469 (Kd.R_base ho0) hb
        replace HO473 := re_ HO473 (Kd.R_base ho0) hb
        replace BK452 := bb BK452 hb
        replace BK453 := bb BK453 hb
        replace BK454 := bb BK454 hb
        replace HB := bs HB hb
        (try clear hb); (try clear ho0)
        refine hK.out _ _ ⟨ct BK453 0, ct BK453 1, ct BK452 0, ct BK452 1⟩ (fun hHeld => ?_)
        clear hK K
        refine nr_ (some 50) ?_
        refine pu_ 8 (some 7) (m_ 9 511) rfl rfl (ao HT_) ?_
        refine done_ (done_of HT_.out (by kernel_rfl)) ?_
        have hcz105 := k2 BK452
        have hcz106 := k2 BK453
        try go_wp2_with (first | ((with_reducible refine gc 42 rfl ?_); refine gl_ (some 57) rfl rfl Tryd.func42 ((carrefourref01_Times.calls _ (IntKind.u64.wrap (t456)) (IntKind.u64.wrap (t458)) _ _ A32.out).mono ?_) ag; rintro e w107 ⟨v478, rfl, ho0, hb⟩; refine ⟨_, rfl, ?_⟩; have HO479 := Aside0.mk (Kd.R_lower (Kd.R_new' (Kd.R_new' (Kd.R_new' (Kd.R_new' ho0 (rl HO466)) (rl HO469)) (rl HO473)) (rl HO476)) (below_size (bf HB))); replace HO466 := re_ HO466 (Kd.R_base ho0) hb; replace HO469 := re_ HO469 (Kd.R_base ho0) hb; replace HO473 := re_ HO473 (Kd.R_base ho0) hb; replace HO476 := re_ HO476 (Kd.R_base ho0) hb; replace BK452 := bb BK452 hb; replace BK453 := bb BK453 hb; replace BK454 := bb BK454 hb; replace HB := bs HB hb; (try clear hb); (try clear ho0); obtain ⟨Ao108, co108, eo108⟩ := Kd.R_slice HO479.out; subst eo108) | ((with_reducible refine gc 41 rfl ?_); refine gl_ (some 58) rfl rfl Tryd.func41 ((carrefourref02_trim.calls _ _ _ _ _ _ ?side1 ?side2 A33.out).mono ?_) ag; (case side1 => exact rc HO479); (case side2 => exact (Kd.R_reads' HO479.out).2.1); rintro e w109 ⟨v481, rfl, ho0, hb⟩; refine ⟨_, rfl, ?_⟩; have HO482 := Aside0.mk (Kd.R_lower (Kd.R_new' (Kd.R_new' (Kd.R_new' (Kd.R_new' (Kd.R_new' ho0 (rl HO466)) (rl HO469)) (rl HO473)) (rl HO476)) (rl HO479)) (below_size (bf HB))); replace HO466 := re_ HO466 (Kd.R_base ho0) hb; replace HO469 := re_ HO469 (Kd.R_base ho0) hb; replace HO473 := re_ HO473 (Kd.R_base ho0) hb; replace HO476 := re_ HO476 (Kd.R_base ho0) hb; replace HO479 := re_ HO479 (Kd.R_base ho0) hb; replace BK452 := bb BK452 hb; replace BK453 := bb BK453 hb; replace BK454 := bb BK454 hb; replace HB := bs HB hb; (try clear hb); (try clear ho0); have hcz110 := k2 BK452; have hcz111 := k2 BK453; obtain ⟨Ao112, co112, eo112⟩ := Kd.R_slice HO469.out; subst eo112; obtain ⟨Ao113, co113, eo113⟩ := Kd.R_slice HO476.out; subst eo113) | ((with_reducible refine gc 46 rfl ?_); refine gm_ (some 79) rfl rfl Tryd.func46 (carrefourref01_Order.calls _ _ _ _ _ _ _ _ _ ?side1 ?side2 ?side3 ?side4 A78.out) ag ?_; (case side1 => exact rc HO469); (case side2 => exact (Kd.R_reads' HO469.out).2.1); (case side3 => exact rc HO476); (case side4 => exact (Kd.R_reads' HO476.out).2.1); intro w114 hb; replace HO466 := rb HO466 hb; replace HO469 := rb HO469 hb; replace HO473 := rb HO473 hb; replace HO476 := rb HO476 hb; replace HO479 := rb HO479 hb; replace HO482 := rb HO482 hb; replace BK452 := bb BK452 hb; replace BK453 := bb BK453 hb; replace BK454 := bb BK454 hb; replace HB := bs HB hb; (try clear hb)))
        replace HO466 := Aside0.mk (Kd.R_drew HO466.out)
        replace HO469 := Aside0.mk (Kd.R_drew HO469.out)
        replace HO473 := Aside0.mk (Kd.R_drew HO473.out)
        replace HO476 := Aside0.mk (Kd.R_drew HO476.out)
        replace HO479 := Aside0.mk (Kd.R_drew HO479.out)
        replace HO482 := Aside0.mk (Kd.R_drew HO482.out)
        replace BK452 := Aside0.mk (blk_drew BK452.out)
        replace BK453 := Aside0.mk (blk_drew BK453.out)
        replace BK454 := Aside0.mk (blk_drew BK454.out)
        replace HB := Aside0.mk (below_drew1 HB.out)
        refine start_ (n := 13) (S := fun w' => c_ w' gb452 0 (.int .i64 t455) ∧ c_ w' gb452 1 (.int .i64 t456)) (ds := []) (m_ 13 0) (by kernel_rfl) rfl rfl ⟨ct BK452 0, ct BK452 1⟩ (fun hHeld => ?_); refine with_tabW carrefourref02_Add.tab11 carrefourref02_Add.bits11 (fun HT_ HW_ => ?_)
        generalize w114.drew = w115 at HO466 HO469 HO473 HO476 HO479 HO482 BK452 BK453 BK454 HB hHeld ⊢
        refine pu_ 0 (some 81) (m_ 13 1) rfl rfl (ao HT_) ?_
        refine pu_ 1 (some 82) (m_ 13 3) rfl rfl (ao HT_) ?_
        refine pu_ 4 (some 85) (m_ 13 19) rfl rfl (ao HT_) ?_
        refine pu_ 5 (some 86) (m_ 13 51) rfl rfl (ao HT_) ?_
        refine tk_ 6 (some 87) (m_ 13 115) rfl rfl (tw HT_ HW_) hHeld ?_
        refine pu_ 7 (some 88) (m_ 13 243) rfl rfl (ao HT_) ?_
        refine o1_ 2 (some 83) (m_ 13 247) rfl rfl (oo HT_) (fun K hK => ?_)
        refine goes_ Tryd.func47 (by kernel_rfl) rfl #[.slice Ao112 t467.length co112, .slice Ao113 t474.length co113] (by rfl) rfl rfl ag ?_
        with_reducible refine (carrefourref01_Minus.calls _ _ _ _ _ _ _ _ _ ?side1 ?side2 ?side3 ?side4 A80.out).mono ?_
        (case side1 => exact rc HO469)
        (case side2 => exact (Kd.R_reads' HO469.out).2.1)
        (case side3 => exact rc HO476)
        (case side4 => exact (Kd.R_reads' HO476.out).2.1)
        rintro e w116 ⟨v494, rfl, ho0, hb⟩
        refine ⟨_, rfl, ?_⟩
        have HO495 := Aside0.mk (Kd.R_lower (Kd.R_new' (Kd.R_new' (Kd.R_new' (Kd.R_new' (Kd.R_new' (Kd.R_new' ho0 (rl HO466)) (rl HO469)) (rl HO473)) (rl HO476)) (rl HO479)) (rl HO482)) (below_size (bf HB)))
        replace HO466 := re_ HO466 (Kd.R_base ho0) hb
        replace HO469 := re_ HO469 (Kd.R_base ho0) hb
        replace HO473 := re_ HO473 (Kd.R_base ho0) hb
        replace HO476 := re_ HO476 (Kd.R_base ho0) hb
        replace HO479 := re_ HO479 (Kd.R_base ho0) hb
        replace HO482 := re_ HO482 (Kd.R_base ho0) hb
        replace BK452 := bb BK452 hb
        replace BK453 := bb BK453 hb
        replace BK454 := bb BK454 hb
        replace HB := bs HB hb
        (try clear hb); (try clear ho0)
        obtain ⟨Ao117, co117, eo117⟩ := Kd.R_slice HO495.out
        (first | subst eo117 | (injection eo117 with f1_ f2_ f3_; have f4_ := f1_.symm; have f5_ := f3_.symm; clear f1_ f2_ f3_; subst f4_; subst f5_))
        refine hK.out _ _ ⟨ct BK452 0, ct BK452 1⟩ (fun hHeld => ?_)
        clear hK K
        refine nr_ (some 83) ?_
        refine o1_ 3 (some 84) (m_ 13 255) rfl rfl (oo HT_) (fun K hK => ?_)
        refine goes_ Tryd.func41 (by kernel_rfl) rfl #[.slice Ao117 t493.length co117] (by rfl) rfl rfl ag ?_
        with_reducible refine (carrefourref02_trim.calls _ _ _ _ _ _ ?side1 ?side2 A81.out).mono ?_
        (case side1 => exact rc HO495)
        (case side2 => exact (Kd.R_reads' HO495.out).2.1)
        rintro e w118 ⟨v497, rfl, ho0, hb⟩
        refine ⟨_, rfl, ?_⟩
        have HO498 := Aside0.mk (Kd.R_lower (Kd.R_new' (Kd.R_new' (Kd.R_new' (Kd.R_new' (Kd.R_new' (Kd.R_new' (Kd.R_new' ho0 (rl HO466)) (rl HO469)) (rl HO473)) (rl HO476)) (rl HO479)) (rl HO482)) (rl HO495)) (below_size (bf HB)))
        replace HO466 := re_ HO466 (Kd.R_base ho0) hb
        replace HO469 := re_ HO469 (Kd.R_base ho0) hb
        replace HO473 := re_ HO473 (Kd.R_base ho0) hb
        replace HO476 := re_ HO476 (Kd.R_base ho0) hb
        replace HO479 := re_ HO479 (Kd.R_base ho0) hb
        replace HO482 := re_ HO482 (Kd.R_base ho0) hb
        replace HO495 := re_ HO495 (Kd.R_base ho0) hb
        replace BK452 := bb BK452 hb
        replace BK453 := bb BK453 hb
        replace BK454 := bb BK454 hb
        replace HB := bs HB hb
        (try clear hb); (try clear ho0)
        obtain ⟨Ao119, co119, eo119⟩ := Kd.R_slice HO498.out
        (first | subst eo119 | (injection eo119 with f1_ f2_ f3_; have f4_ := f1_.symm; have f5_ := f3_.symm; clear f1_ f2_ f3_; subst f4_; subst f5_))
        obtain ⟨Ao120, co120, eo120⟩ := Kd.R_slice HO482.out
        (first | subst eo120 | (injection eo120 with f1_ f2_ f3_; have f4_ := f1_.symm; have f5_ := f3_.symm; clear f1_ f2_ f3_; subst f4_; subst f5_))
        refine hK.out _ _ ⟨ct BK452 0, ct BK452 1⟩ (fun hHeld => ?_)
        clear hK K
        refine nr_ (some 84) ?_
        refine o1_ 8 (some 89) (m_ 13 511) rfl rfl (oo HT_) (fun K hK => ?_)
        refine gs_ rfl Tryd.func44 (carrefourref02_lowest.calls _ (fun k_ => some k_ = (.slice Ao119 t496.length co119 : Value).ownBlock) _ _ _ (fun k_ => some k_ = (.slice Ao120 t480.length co120 : Value).ownBlock) _ _ _ (decide (t455 < 0)) _ _ _ _ ?side1 ?side2 A82.out) ag ?_
        (case side1 => exact Kd.R_V (Kd.R_tight rfl (Kd.R_types (Kd.R_types (Kd.R_types (HO498.out) BK452.out (by decide)) BK453.out (by decide)) BK454.out (by decide))))
        (case side2 => exact Kd.R_V (Kd.R_tight rfl (Kd.R_types (Kd.R_types (Kd.R_types (HO482.out) BK452.out (by decide)) BK453.out (by decide)) BK454.out (by decide))))
        intro w121 hb
        replace HO466 := rb HO466 hb
        replace HO469 := rb HO469 hb
        replace HO473 := rb HO473 hb
        replace HO476 := rb HO476 hb
        replace HO479 := rb HO479 hb
        replace HO482 := rb HO482 hb
        replace HO495 := rb HO495 hb
        replace HO498 := rb HO498 hb
        replace BK452 := bb BK452 hb
        replace BK454 := bb BK454 hb
        replace HB := bs HB hb
        (try clear hb)
        refine hK.out _ _ ⟨ct BK452 0, ct BK452 1⟩ (fun hHeld => ?_)
        clear hK K
        refine nr_ (some 89) ?_
        refine pu_ 9 (some 90) (m_ 13 1023) rfl rfl (ao HT_) ?_
        refine pu_ 10 (some 91) (m_ 13 2047) rfl rfl (ao HT_) ?_
        refine o1_ 11 (none) (m_ 13 4095) rfl rfl (oo HT_) (fun K hK => ?_)
        have hs122 : c_ w121 gb454 0 (.int .i64 0) := ct BK454 0
        have hfs122 := blk_frozen BK454.out 0
        have hns122_0 := NB452_454.out
        have hns122_1 := NB453_454.out
        have hms122_0 := NB454_452.out
        have hms122_1 := NB454_453.out
        have hs123 : c_ w121 gb454 1 (.int .i64 0) := ct BK454 1
        have hfs123 := blk_frozen BK454.out 1
        have hns123_0 := NB452_454.out
        have hns123_1 := NB453_454.out
        have hms123_0 := NB454_452.out
        have hms123_1 := NB454_453.out
        refine skip_ (w1 := ?_) (by rfl) rfl ?_ ?_
        rotate_left
        · go_simp
          rfl
        refine hK.out _ _ ⟨((cell_far (p := ⟨gb454, _, none⟩) NB452_454.out _).trans (((cell_far (p := ⟨gb454, _, none⟩) NB452_454.out _).trans (hHeld.1)))), ((cell_far (p := ⟨gb454, _, none⟩) NB452_454.out _).trans (((cell_far (p := ⟨gb454, _, none⟩) NB452_454.out _).trans (hHeld.2))))⟩ (fun hHeld => ?_)
        clear hK K
        refine pu_ 12 (some 5) (m_ 13 8191) rfl rfl (ao HT_) ?_
        refine done_ (done_of HT_.out (by kernel_rfl)) ?_
        try go_wp2
        refine bodyPost_ret (results_ct rfl _ _ gb454 23 #[.int .i64 t499, .int .i64 t500] (0, 0) _ rfl (br_ BK454) Tryd.underlying23 rfl (by kernel_rfl)) rfl ?_
        exact ⟨ae, bf HB⟩
      · rw [if_neg c79] at H
        have c79b0 : decide (0 ≤ t492) = false := decide_eq_false c79
        clear c79
        replace H := bi_ H; obtain ⟨t502, A124, H⟩ := H
        (try dsimp only at H)
        replace H := bi_ H; obtain ⟨t505, A125, H⟩ := H
        (try dsimp only at H)
        replace H := bi_ H; obtain ⟨⟨t508, t509, t510⟩, A126, H⟩ := H
        (try dsimp only at H)
        simp only [Option.some.injEq, Prod.mk.injEq] at H
        obtain ⟨rfl, rfl, rfl⟩ := H
        go_enter Tryd.func11, Tryd.ntmps11
        try go_wp2_with (first | ((with_reducible refine gd 2 rfl ?_); refine bx_ 2 23 #[.int .i64 a0_0, .int .i64 a0_1] rfl rfl ?_; intro gb452 hg w127 BK452 hb; have GE452 := bz HB hg; replace HB := bs HB hb; clear hb hg) | ((with_reducible refine gd 3 rfl ?_); refine bx_ 3 23 #[.int .i64 a1_0, .int .i64 a1_1] rfl rfl ?_; intro gb453 hg w128 BK453 hb; have GE453 := bz HB hg; have ⟨NB452_453, NB453_452⟩ := nb BK452 hg; replace BK452 := bb BK452 hb; replace HB := bs HB hb; clear hb hg) | ((with_reducible refine gd 4 rfl ?_); refine bx_ 4 23 #[.int .i64 0, .int .i64 0] rfl rfl ?_; intro gb454 hg w129 BK454 hb; have GE454 := bz HB hg; have ⟨NB452_454, NB454_452⟩ := nb BK452 hg; have ⟨NB453_454, NB454_453⟩ := nb BK453 hg; replace BK452 := bb BK452 hb; replace BK453 := bb BK453 hb; replace HB := bs HB hb; clear hb hg; have hnb130 := nn NB452_453; have hnb131 := nn NB452_454; have hcz132 := k2 BK452) | ((with_reducible refine gc 39 rfl ?_); refine gm_ (some 10) rfl rfl Tryd.func39 (carrefourref02_Norm.calls _ _ _ _ _ _ A3.out) ag ?_; intro w133 hb; replace BK452 := bb BK452 hb; replace BK453 := bb BK453 hb; replace BK454 := bb BK454 hb; replace HB := bs HB hb; (try clear hb); have hcz134 := k2 BK452; have hnb135 := nn NB453_454; have hcz136 := k2 BK453) | ((with_reducible refine gc 39 rfl ?_); refine gm_ (some 12) rfl rfl Tryd.func39 (carrefourref02_Norm.calls _ _ _ _ _ _ A4.out) ag ?_; intro w137 hb; replace BK452 := bp_ #[.int .i64 t455, .int .i64 t456] BK452 hb; replace BK453 := bb BK453 hb; replace BK454 := bb BK454 hb; replace HB := bs HB hb; (try clear hb); have hcz138 := k2 BK453; have hcz139 := k2 BK452) | ((with_reducible refine gc 40 rfl ?_); refine gm_ (some 15) rfl rfl Tryd.func40 (carrefourref02_few.calls _ _ _ _ _ _ A5.out) ag ?_; intro w140 hb; replace BK452 := bb BK452 hb; replace BK453 := bp_ #[.int .i64 t457, .int .i64 t458] BK453 hb; replace BK454 := bb BK454 hb; replace HB := bs HB hb; (try clear hb)))
        replace BK452 := Aside0.mk (blk_drew BK452.out)
        replace BK453 := Aside0.mk (blk_drew BK453.out)
        replace BK454 := Aside0.mk (blk_drew BK454.out)
        replace HB := Aside0.mk (below_drew1 HB.out)
        refine start_ (n := 9) (S := fun w' => c_ w' gb452 0 (.int .i64 t455) ∧ c_ w' gb452 1 (.int .i64 t456) ∧ c_ w' gb453 0 (.int .i64 t457) ∧ c_ w' gb453 1 (.int .i64 t458)) (ds := []) (m_ 9 0) (by kernel_rfl) rfl rfl ⟨ct BK452 0, ct BK452 1, ct BK453 0, ct BK453 1⟩ (fun hHeld => ?_); refine with_tabW carrefourref02_Add.tab5 carrefourref02_Add.bits5 (fun HT_ HW_ => ?_)
        generalize w140.drew = w141 at BK452 BK453 BK454 HB hHeld ⊢
        refine pu_ 0 (some 35) (m_ 9 1) rfl rfl (ao HT_) ?_
        refine pu_ 3 (some 38) (m_ 9 9) rfl rfl (ao HT_) ?_
        refine tk_ 1 (some 36) (m_ 9 11) rfl rfl (tw HT_ HW_) hHeld ?_
        refine tk_ 4 (some 39) (m_ 9 27) rfl rfl (tw HT_ HW_) hHeld ?_
        refine pu_ 5 (some 40) (m_ 9 59) rfl rfl (ao HT_) ?_
        refine o1_ 2 (some 37) (m_ 9 63) rfl rfl (oo HT_) (fun K hK => ?_)
        refine gs_ rfl Tryd.func43 (carrefourref01_Size.calls _ _ _ A26.out) ag ?_
        rintro w' ⟨nd, rfl⟩
        refine hK.out _ _ ⟨ct BK452 0, ct BK452 1, ct BK453 0, ct BK453 1⟩ (fun hHeld => ?_)
        clear hK K
        refine nr_ (some 37) ?_
        refine o1_ 6 (some 41) (m_ 9 127) rfl rfl (oo HT_) (fun K hK => ?_)
        refine goes_ Tryd.func42 (by kernel_rfl) rfl #[.int .u64 t463, .int .u64 (IntKind.u64.wrap (t458))] (by rfl) rfl rfl ag ?_
        with_reducible refine (carrefourref01_Times.calls _ _ (IntKind.u64.wrap (t458)) _ _ A27.out).mono ?_
        rintro e w142 ⟨v465, rfl, ho0, hb⟩
        refine ⟨_, rfl, ?_⟩
        have HO466 := Aside0.mk (Kd.R_lower ho0 (below_size (bf HB)))
        replace BK452 := bb BK452 hb
        replace BK453 := bb BK453 hb
        replace BK454 := bb BK454 hb
        replace HB := bs HB hb
        (try clear hb); (try clear ho0)
        obtain ⟨Ao143, co143, eo143⟩ := Kd.R_slice HO466.out
        (first | subst eo143 | (injection eo143 with f1_ f2_ f3_; have f4_ := f1_.symm; have f5_ := f3_.symm; clear f1_ f2_ f3_; subst f4_; subst f5_))
        refine hK.out _ _ ⟨ct BK452 0, ct BK452 1, ct BK453 0, ct BK453 1⟩ (fun hHeld => ?_)
        clear hK K
        refine nr_ (some 41) ?_
        refine o1_ 7 (some 42) (m_ 9 255) rfl rfl (oo HT_) (fun K hK => ?_)
        refine goes_ Tryd.func41 (by kernel_rfl) rfl #[.slice Ao143 t464.length co143] (by rfl) rfl rfl ag ?_
        with_reducible refine (carrefourref02_trim.calls _ _ _ _ _ _ ?side1 ?side2 A28.out).mono ?_
        (case side1 => exact rc HO466)
        (case side2 => exact (Kd.R_reads' HO466.out).2.1)
        rintro e w144 ⟨v468, rfl, ho0, hb⟩
        refine ⟨_, rfl, ?_⟩
        have HO469 := Aside0.mk (Kd.R_lower (Kd.R_new' ho0 (rl HO466)) (below_size (bf HB)))
        replace HO466 := re_ HO466 (Kd.R_base ho0) hb
        replace BK452 := bb BK452 hb
        replace BK453 := bb BK453 hb
        replace BK454 := bb BK454 hb
        replace HB := bs HB hb
        (try clear hb); (try clear ho0)
        refine hK.out _ _ ⟨ct BK452 0, ct BK452 1, ct BK453 0, ct BK453 1⟩ (fun hHeld => ?_)
        clear hK K
        refine nr_ (some 42) ?_
        refine pu_ 8 (some 6) (m_ 9 511) rfl rfl (ao HT_) ?_
        refine done_ (done_of HT_.out (by kernel_rfl)) ?_
        try go_wp2
        replace HO466 := Aside0.mk (Kd.R_drew HO466.out)
        replace HO469 := Aside0.mk (Kd.R_drew HO469.out)
        replace BK452 := Aside0.mk (blk_drew BK452.out)
        replace BK453 := Aside0.mk (blk_drew BK453.out)
        replace BK454 := Aside0.mk (blk_drew BK454.out)
        replace HB := Aside0.mk (below_drew1 HB.out)
        refine start_ (n := 9) (S := fun w' => c_ w' gb453 0 (.int .i64 t457) ∧ c_ w' gb453 1 (.int .i64 t458) ∧ c_ w' gb452 0 (.int .i64 t455) ∧ c_ w' gb452 1 (.int .i64 t456)) (ds := []) (m_ 9 0) (by kernel_rfl) rfl rfl ⟨ct BK453 0, ct BK453 1, ct BK452 0, ct BK452 1⟩ (fun hHeld => ?_); refine with_tabW carrefourref02_Add.tab6 carrefourref02_Add.bits6 (fun HT_ HW_ => ?_)
        generalize w144.drew = w145 at HO466 HO469 BK452 BK453 BK454 HB hHeld ⊢
        refine pu_ 0 (some 43) (m_ 9 1) rfl rfl (ao HT_) ?_
        refine pu_ 3 (some 46) (m_ 9 9) rfl rfl (ao HT_) ?_
        refine tk_ 1 (some 44) (m_ 9 11) rfl rfl (tw HT_ HW_) hHeld ?_
        refine tk_ 4 (some 47) (m_ 9 27) rfl rfl (tw HT_ HW_) hHeld ?_
        refine pu_ 5 (some 48) (m_ 9 59) rfl rfl (ao HT_) ?_
        refine o1_ 2 (some 45) (m_ 9 63) rfl rfl (oo HT_) (fun K hK => ?_)
        refine gs_ rfl Tryd.func43 (carrefourref01_Size.calls _ _ _ A29.out) ag ?_
        rintro w' ⟨nd, rfl⟩
        refine hK.out _ _ ⟨ct BK453 0, ct BK453 1, ct BK452 0, ct BK452 1⟩ (fun hHeld => ?_)
        clear hK K
        refine nr_ (some 45) ?_
        refine o1_ 6 (some 49) (m_ 9 127) rfl rfl (oo HT_) (fun K hK => ?_)
        refine goes_ Tryd.func42 (by kernel_rfl) rfl #[.int .u64 t470, .int .u64 (IntKind.u64.wrap (t456))] (by rfl) rfl rfl ag ?_
        with_reducible refine (carrefourref01_Times.calls _ _ (IntKind.u64.wrap (t456)) _ _ A30.out).mono ?_
        rintro e w146 ⟨v472, rfl, ho0, hb⟩
        refine ⟨_, rfl, ?_⟩
        have HO473 := Aside0.mk (Kd.R_lower (Kd.R_new' (Kd.R_new' ho0 (rl HO466)) (rl HO469)) (below_size (bf HB)))
        replace HO466 := re_ HO466 (Kd.R_base ho0) hb
        replace HO469 := re_ HO469 (Kd.R_base ho0) hb
        replace BK452 := bb BK452 hb
        replace BK453 := bb BK453 hb
        replace BK454 := bb BK454 hb
        replace HB := bs HB hb
        (try clear hb); (try clear ho0)
        obtain ⟨Ao147, co147, eo147⟩ := Kd.R_slice HO473.out
        (first | subst eo147 | (injection eo147 with f1_ f2_ f3_; have f4_ := f1_.symm; have f5_ := f3_.symm; clear f1_ f2_ f3_; subst f4_; subst f5_))
        refine hK.out _ _ ⟨ct BK453 0, ct BK453 1, ct BK452 0, ct BK452 1⟩ (fun hHeld => ?_)
        clear hK K
        refine nr_ (some 49) ?_
        refine o1_ 7 (some 50) (m_ 9 255) rfl rfl (oo HT_) (fun K hK => ?_)
        refine goes_ Tryd.func41 (by kernel_rfl) rfl #[.slice Ao147 t471.length co147] (by rfl) rfl rfl ag ?_
        with_reducible refine (carrefourref02_trim.calls _ _ _ _ _ _ ?side1 ?side2 A31.out).mono ?_
        (case side1 => exact rc HO473)
        (case side2 => exact (Kd.R_reads' HO473.out).2.1)
        rintro e w148 ⟨v475, rfl, ho0, hb⟩
        refine ⟨_, rfl, ?_⟩
        have HO476 := Aside0.mk (Kd.R_lower (Kd.R_new' (Kd.R_new' (Kd.R_new' ho0 (rl HO466)) (rl HO469)) (rl HO473)) (below_size (bf HB)))
        replace HO466 := re_ HO466 (Kd.R_base ho0) hb
        replace HO469 := re_ HO469 (Kd.R_base ho0) hb
        replace HO473 := re_ HO473 (Kd.R_base ho0) hb
        replace BK452 := bb BK452 hb
        replace BK453 := bb BK453 hb
        replace BK454 := bb BK454 hb
        replace HB := bs HB hb
        (try clear hb); (try clear ho0)
        refine hK.out _ _ ⟨ct BK453 0, ct BK453 1, ct BK452 0, ct BK452 1⟩ (fun hHeld => ?_)
        clear hK K
        refine nr_ (some 50) ?_
        refine pu_ 8 (some 7) (m_ 9 511) rfl rfl (ao HT_) ?_
        refine done_ (done_of HT_.out (by kernel_rfl)) ?_
        have hcz149 := k2 BK452
        have hcz150 := k2 BK453
        try go_wp2_with (first | ((with_reducible refine gc 42 rfl ?_); refine gl_ (some 57) rfl rfl Tryd.func42 ((carrefourref01_Times.calls _ (IntKind.u64.wrap (t456)) (IntKind.u64.wrap (t458)) _ _ A32.out).mono ?_) ag; rintro e w151 ⟨v478, rfl, ho0, hb⟩; refine ⟨_, rfl, ?_⟩; have HO479 := Aside0.mk (Kd.R_lower (Kd.R_new' (Kd.R_new' (Kd.R_new' (Kd.R_new' ho0 (rl HO466)) (rl HO469)) (rl HO473)) (rl HO476)) (below_size (bf HB))); replace HO466 := re_ HO466 (Kd.R_base ho0) hb; replace HO469 := re_ HO469 (Kd.R_base ho0) hb; replace HO473 := re_ HO473 (Kd.R_base ho0) hb; replace HO476 := re_ HO476 (Kd.R_base ho0) hb; replace BK452 := bb BK452 hb; replace BK453 := bb BK453 hb; replace BK454 := bb BK454 hb; replace HB := bs HB hb; (try clear hb); (try clear ho0); obtain ⟨Ao152, co152, eo152⟩ := Kd.R_slice HO479.out; subst eo152) | ((with_reducible refine gc 41 rfl ?_); refine gl_ (some 58) rfl rfl Tryd.func41 ((carrefourref02_trim.calls _ _ _ _ _ _ ?side1 ?side2 A33.out).mono ?_) ag; (case side1 => exact rc HO479); (case side2 => exact (Kd.R_reads' HO479.out).2.1); rintro e w153 ⟨v481, rfl, ho0, hb⟩; refine ⟨_, rfl, ?_⟩; have HO482 := Aside0.mk (Kd.R_lower (Kd.R_new' (Kd.R_new' (Kd.R_new' (Kd.R_new' (Kd.R_new' ho0 (rl HO466)) (rl HO469)) (rl HO473)) (rl HO476)) (rl HO479)) (below_size (bf HB))); replace HO466 := re_ HO466 (Kd.R_base ho0) hb; replace HO469 := re_ HO469 (Kd.R_base ho0) hb; replace HO473 := re_ HO473 (Kd.R_base ho0) hb; replace HO476 := re_ HO476 (Kd.R_base ho0) hb; replace HO479 := re_ HO479 (Kd.R_base ho0) hb; replace BK452 := bb BK452 hb; replace BK453 := bb BK453 hb; replace BK454 := bb BK454 hb; replace HB := bs HB hb; (try clear hb); (try clear ho0); have hcz154 := k2 BK452; have hcz155 := k2 BK453; obtain ⟨Ao156, co156, eo156⟩ := Kd.R_slice HO469.out; subst eo156; obtain ⟨Ao157, co157, eo157⟩ := Kd.R_slice HO476.out; subst eo157) | ((with_reducible refine gc 46 rfl ?_); refine gm_ (some 79) rfl rfl Tryd.func46 (carrefourref01_Order.calls _ _ _ _ _ _ _ _ _ ?side1 ?side2 ?side3 ?side4 A78.out) ag ?_; (case side1 => exact rc HO469); (case side2 => exact (Kd.R_reads' HO469.out).2.1); (case side3 => exact rc HO476); (case side4 => exact (Kd.R_reads' HO476.out).2.1); intro w158 hb; replace HO466 := rb HO466 hb; replace HO469 := rb HO469 hb; replace HO473 := rb HO473 hb; replace HO476 := rb HO476 hb; replace HO479 := rb HO479 hb; replace HO482 := rb HO482 hb; replace BK452 := bb BK452 hb; replace BK453 := bb BK453 hb; replace BK454 := bb BK454 hb; replace HB := bs HB hb; (try clear hb)))
        replace HO466 := Aside0.mk (Kd.R_drew HO466.out)
        replace HO469 := Aside0.mk (Kd.R_drew HO469.out)
        replace HO473 := Aside0.mk (Kd.R_drew HO473.out)
        replace HO476 := Aside0.mk (Kd.R_drew HO476.out)
        replace HO479 := Aside0.mk (Kd.R_drew HO479.out)
        replace HO482 := Aside0.mk (Kd.R_drew HO482.out)
        replace BK452 := Aside0.mk (blk_drew BK452.out)
        replace BK453 := Aside0.mk (blk_drew BK453.out)
        replace BK454 := Aside0.mk (blk_drew BK454.out)
        replace HB := Aside0.mk (below_drew1 HB.out)
        refine start_ (n := 13) (S := fun w' => c_ w' gb453 0 (.int .i64 t457) ∧ c_ w' gb453 1 (.int .i64 t458)) (ds := []) (m_ 13 0) (by kernel_rfl) rfl rfl ⟨ct BK453 0, ct BK453 1⟩ (fun hHeld => ?_); refine with_tabW carrefourref02_Add.tab12 carrefourref02_Add.bits12 (fun HT_ HW_ => ?_)
        generalize w158.drew = w159 at HO466 HO469 HO473 HO476 HO479 HO482 BK452 BK453 BK454 HB hHeld ⊢
        refine pu_ 0 (some 92) (m_ 13 1) rfl rfl (ao HT_) ?_
        refine pu_ 1 (some 93) (m_ 13 3) rfl rfl (ao HT_) ?_
        refine pu_ 4 (some 96) (m_ 13 19) rfl rfl (ao HT_) ?_
        refine pu_ 5 (some 97) (m_ 13 51) rfl rfl (ao HT_) ?_
        refine tk_ 6 (some 98) (m_ 13 115) rfl rfl (tw HT_ HW_) hHeld ?_
        refine pu_ 7 (some 99) (m_ 13 243) rfl rfl (ao HT_) ?_
        refine o1_ 2 (some 94) (m_ 13 247) rfl rfl (oo HT_) (fun K hK => ?_)
        refine goes_ Tryd.func47 (by kernel_rfl) rfl #[.slice Ao157 t474.length co157, .slice Ao156 t467.length co156] (by rfl) rfl rfl ag ?_
        with_reducible refine (carrefourref01_Minus.calls _ _ _ _ _ _ _ _ _ ?side1 ?side2 ?side3 ?side4 A124.out).mono ?_
        (case side1 => exact rc HO476)
        (case side2 => exact (Kd.R_reads' HO476.out).2.1)
        (case side3 => exact rc HO469)
        (case side4 => exact (Kd.R_reads' HO469.out).2.1)
        rintro e w160 ⟨v503, rfl, ho0, hb⟩
        refine ⟨_, rfl, ?_⟩
        have HO504 := Aside0.mk (Kd.R_lower (Kd.R_new' (Kd.R_new' (Kd.R_new' (Kd.R_new' (Kd.R_new' (Kd.R_new' ho0 (rl HO466)) (rl HO469)) (rl HO473)) (rl HO476)) (rl HO479)) (rl HO482)) (below_size (bf HB)))
        replace HO466 := re_ HO466 (Kd.R_base ho0) hb
        replace HO469 := re_ HO469 (Kd.R_base ho0) hb
        replace HO473 := re_ HO473 (Kd.R_base ho0) hb
        replace HO476 := re_ HO476 (Kd.R_base ho0) hb
        replace HO479 := re_ HO479 (Kd.R_base ho0) hb
        replace HO482 := re_ HO482 (Kd.R_base ho0) hb
        replace BK452 := bb BK452 hb
        replace BK453 := bb BK453 hb
        replace BK454 := bb BK454 hb
        replace HB := bs HB hb
        (try clear hb); (try clear ho0)
        obtain ⟨Ao161, co161, eo161⟩ := Kd.R_slice HO504.out
        (first | subst eo161 | (injection eo161 with f1_ f2_ f3_; have f4_ := f1_.symm; have f5_ := f3_.symm; clear f1_ f2_ f3_; subst f4_; subst f5_))
        refine hK.out _ _ ⟨ct BK453 0, ct BK453 1⟩ (fun hHeld => ?_)
        clear hK K
        refine nr_ (some 94) ?_
        refine o1_ 3 (some 95) (m_ 13 255) rfl rfl (oo HT_) (fun K hK => ?_)
        refine goes_ Tryd.func41 (by kernel_rfl) rfl #[.slice Ao161 t502.length co161] (by rfl) rfl rfl ag ?_
        with_reducible refine (carrefourref02_trim.calls _ _ _ _ _ _ ?side1 ?side2 A125.out).mono ?_
        (case side1 => exact rc HO504)
        (case side2 => exact (Kd.R_reads' HO504.out).2.1)
        rintro e w162 ⟨v506, rfl, ho0, hb⟩
        refine ⟨_, rfl, ?_⟩
        have HO507 := Aside0.mk (Kd.R_lower (Kd.R_new' (Kd.R_new' (Kd.R_new' (Kd.R_new' (Kd.R_new' (Kd.R_new' (Kd.R_new' ho0 (rl HO466)) (rl HO469)) (rl HO473)) (rl HO476)) (rl HO479)) (rl HO482)) (rl HO504)) (below_size (bf HB)))
        replace HO466 := re_ HO466 (Kd.R_base ho0) hb
        replace HO469 := re_ HO469 (Kd.R_base ho0) hb
        replace HO473 := re_ HO473 (Kd.R_base ho0) hb
        replace HO476 := re_ HO476 (Kd.R_base ho0) hb
        replace HO479 := re_ HO479 (Kd.R_base ho0) hb
        replace HO482 := re_ HO482 (Kd.R_base ho0) hb
        replace HO504 := re_ HO504 (Kd.R_base ho0) hb
        replace BK452 := bb BK452 hb
        replace BK453 := bb BK453 hb
        replace BK454 := bb BK454 hb
        replace HB := bs HB hb
        (try clear hb); (try clear ho0)
        obtain ⟨Ao163, co163, eo163⟩ := Kd.R_slice HO507.out
        (first | subst eo163 | (injection eo163 with f1_ f2_ f3_; have f4_ := f1_.symm; have f5_ := f3_.symm; clear f1_ f2_ f3_; subst f4_; subst f5_))
        obtain ⟨Ao164, co164, eo164⟩ := Kd.R_slice HO482.out
        (first | subst eo164 | (injection eo164 with f1_ f2_ f3_; have f4_ := f1_.symm; have f5_ := f3_.symm; clear f1_ f2_ f3_; subst f4_; subst f5_))
        refine hK.out _ _ ⟨ct BK453 0, ct BK453 1⟩ (fun hHeld => ?_)
        clear hK K
        refine nr_ (some 95) ?_
        refine o1_ 8 (some 100) (m_ 13 511) rfl rfl (oo HT_) (fun K hK => ?_)
        refine gs_ rfl Tryd.func44 (carrefourref02_lowest.calls _ (fun k_ => some k_ = (.slice Ao163 t505.length co163 : Value).ownBlock) _ _ _ (fun k_ => some k_ = (.slice Ao164 t480.length co164 : Value).ownBlock) _ _ _ (decide (t457 < 0)) _ _ _ _ ?side1 ?side2 A126.out) ag ?_
        (case side1 => exact Kd.R_V (Kd.R_tight rfl (Kd.R_types (Kd.R_types (Kd.R_types (HO507.out) BK452.out (by decide)) BK453.out (by decide)) BK454.out (by decide))))
        (case side2 => exact Kd.R_V (Kd.R_tight rfl (Kd.R_types (Kd.R_types (Kd.R_types (HO482.out) BK452.out (by decide)) BK453.out (by decide)) BK454.out (by decide))))
        intro w165 hb
        replace HO466 := rb HO466 hb
        replace HO469 := rb HO469 hb
        replace HO473 := rb HO473 hb
        replace HO476 := rb HO476 hb
        replace HO479 := rb HO479 hb
        replace HO482 := rb HO482 hb
        replace HO504 := rb HO504 hb
        replace HO507 := rb HO507 hb
        replace BK453 := bb BK453 hb
        replace BK454 := bb BK454 hb
        replace HB := bs HB hb
        (try clear hb)
        refine hK.out _ _ ⟨ct BK453 0, ct BK453 1⟩ (fun hHeld => ?_)
        clear hK K
        refine nr_ (some 100) ?_
        refine pu_ 9 (some 101) (m_ 13 1023) rfl rfl (ao HT_) ?_
        refine pu_ 10 (some 102) (m_ 13 2047) rfl rfl (ao HT_) ?_
        refine o1_ 11 (none) (m_ 13 4095) rfl rfl (oo HT_) (fun K hK => ?_)
        have hs166 : c_ w165 gb454 0 (.int .i64 0) := ct BK454 0
        have hfs166 := blk_frozen BK454.out 0
        have hns166_0 := NB452_454.out
        have hns166_1 := NB453_454.out
        have hms166_0 := NB454_452.out
        have hms166_1 := NB454_453.out
        have hs167 : c_ w165 gb454 1 (.int .i64 0) := ct BK454 1
        have hfs167 := blk_frozen BK454.out 1
        have hns167_0 := NB452_454.out
        have hns167_1 := NB453_454.out
        have hms167_0 := NB454_452.out
        have hms167_1 := NB454_453.out
        refine skip_ (w1 := ?_) (by rfl) rfl ?_ ?_
        rotate_left
        · go_simp
          rfl
        refine hK.out _ _ ⟨((cell_far (p := ⟨gb454, _, none⟩) NB453_454.out _).trans (((cell_far (p := ⟨gb454, _, none⟩) NB453_454.out _).trans (hHeld.1)))), ((cell_far (p := ⟨gb454, _, none⟩) NB453_454.out _).trans (((cell_far (p := ⟨gb454, _, none⟩) NB453_454.out _).trans (hHeld.2))))⟩ (fun hHeld => ?_)
        clear hK K
        refine pu_ 12 (some 5) (m_ 13 8191) rfl rfl (ao HT_) ?_
        refine done_ (done_of HT_.out (by kernel_rfl)) ?_
        try go_wp2
        refine bodyPost_ret (results_ct rfl _ _ gb454 23 #[.int .i64 t508, .int .i64 t509] (0, 0) _ rfl (br_ BK454) Tryd.underlying23 rfl (by kernel_rfl)) rfl ?_
        exact ⟨ae, bf HB⟩

end Go.Proofs.YtjgnaccamakpdaaDoor.X
