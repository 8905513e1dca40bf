/- Walks: each '.calls' says that the Go function comes to what its Lean function tells. Conditions: as each theorem's head says. -/
import Derived.Test.YtfhokgkpcphmlaaGreatDoorXD
import Derived.Test.YtfhokgkpcphmlaaGreatDoorX0
import Derived.Test.YtfhokgkpcphmlaaGreatDoorX13
import Derived.Test.YtfhokgkpcphmlaaGreatDoorX14
import Derived.Test.YtfhokgkpcphmlaaGreatDoorX15
import Derived.Test.YtfhokgkpcphmlaaGreatDoorX17
namespace Go.Proofs.YtfhokgkpcphmlaaGreatDoor.X
open Go.RowKit Go.Proofs.YtfhokgkpcphmlaaGreatDoorW.PrintWords Go.Proofs.YtfhokgkpcphmlaaGreatDoorW.PrintLast Go.Proofs.YtfhokgkpcphmlaaGreatDoorW.PrintMore
attribute [local go_sem] max2_int min2_int max_two min_two max_three min_three max_four min_four   -- for this text's walks alone
set_option linter.unusedVariables false
set_option maxHeartbeats 8000000
set_option maxRecDepth 100000
set_option linter.unusedSimpArgs false

/-! ### carrefourref02_Div: function 20 -/
def carrefourref02_Div.T7 : Bool × List (List Nat × List Nat) := (true, [([], []), ([0], [0]), ([1], [1]), ([], []), ([3], [3]), ([4], [4]), ([2, 5, 2], [2, 5]), ([6, 6], [6]), ([7, 7, 0, 1, 2, 3, 4, 5, 6, 7], [7])])
def carrefourref02_Div.B7 : List Nat := [0, 1, 3, 0, 8, 24, 63, 127, 255]
theorem carrefourref02_Div.tab7 : rtab .any (opsOf Tryz.f20 7) = carrefourref02_Div.T7 := by kernel_rfl
theorem carrefourref02_Div.bits7 : waitsOk carrefourref02_Div.T7.2 carrefourref02_Div.B7 = true := by kernel_rfl
def carrefourref02_Div.T8 : Bool × List (List Nat × List Nat) := (true, [([], []), ([0], [0]), ([1], [1]), ([], []), ([3], [3]), ([4], [4]), ([2, 5, 5], [2, 5]), ([6, 6], [6]), ([7, 7, 0, 1, 2, 3, 4, 5, 6, 7], [7])])
def carrefourref02_Div.B8 : List Nat := [0, 1, 3, 0, 8, 24, 63, 127, 255]
theorem carrefourref02_Div.tab8 : rtab .any (opsOf Tryz.f20 8) = carrefourref02_Div.T8 := by kernel_rfl
theorem carrefourref02_Div.bits8 : waitsOk carrefourref02_Div.T8.2 carrefourref02_Div.B8 = true := by kernel_rfl
theorem carrefourref02_Div.calls (k : Nat) (a0_0 : Int) (a0_1 : Int) (a1_0 : Int) (a1_1 : Int) (r1 : Int) (r2 : Int) (r3 : Int) (w : World) (h : carrefourref02_Div.f k a0_0 a0_1 a1_0 a1_1 = some (r1, r2, r3)) :
  Calls Tryz.prog 20 #[.agg #[.int .i64 a0_0, .int .i64 a0_1], .agg #[.int .i64 a1_0, .int .i64 a1_1]] w fun e w' => e = .returned (.tuple #[.agg #[.int .i64 r1, .int .i64 r2], .int .i64 r3]) ∧ Below w.heap.size w w' := by
 have hu23 := Tryz.underlying23
 have HB := Aside0.mk (Below.refl w.heap.size w)
 have H : ((carrefourref02_Norm.f k a0_0 a0_1).bind fun bt501 => ((carrefourref02_Norm.f k a1_0 a1_1).bind fun bt503 => (if bt503.1 = 0 then (some (0, 0, 3)) else ((carrefourref02_few.f bt501.1 bt501.2 bt503.1 bt503.2).bind fun t505 => (if t505 = true then ((carrefourref02_Of.f k (wrap64 (bt501.1 * bt503.2)) (wrap64 (bt501.2 * bt503.1))).bind fun bt506 => (some (bt506.1, bt506.2.1, bt506.2.2))) else ((carrefourref01_Size.f bt501.1).bind fun t509 => ((carrefourref01_Times.f k t509 (IntKind.u64.wrap (bt503.2))).bind fun t510 => ((carrefourref02_trim.f k t510).bind fun t513 => ((carrefourref01_Size.f bt503.1).bind fun t516 => ((carrefourref01_Times.f k (IntKind.u64.wrap (bt501.2)) t516).bind fun t517 => ((carrefourref02_trim.f k t517).bind fun t520 => ((carrefourref02_lowest.f k t513 t520 ((decide (bt501.1 < 0)) != (decide (bt503.1 < 0)))).bind fun bt523 => (some (bt523.1, bt523.2.1, bt523.2.2)))))))))))))) = some (r1, r2, r3) := h
 clear h
 replace H := bi_ H; obtain ⟨⟨t501, t502⟩, A3, H⟩ := H
 (try dsimp only at H)
 replace H := bi_ H; obtain ⟨⟨t503, t504⟩, A4, H⟩ := H
 (try dsimp only at H)
 by_cases c5 : t503 = 0
 ·rw [if_pos c5] at H
  have c5b0 : (t503 == 0) = true := beq_iff_eq.mpr c5
  have c5b1 : (t503 != 0) = false := bne_eq_false_iff_eq.mpr c5
  clear c5
  simp only [Option.some.injEq, Prod.mk.injEq] at H
  obtain ⟨rfl, rfl, rfl⟩ := H
  go_enter Tryz.func20, Tryz.ntmps20
  go_wp2_with (first | ((with_reducible refine gd 2 rfl ?_); refine bx_ 2 23 #[.int .i64 a0_0, .int .i64 a0_1] rfl rfl ?_; intro gb498 hg w6 BK498 hb; have GE498 := bz HB hg; replace HB := bs HB hb; clear hb hg) | ((with_reducible refine gd 3 rfl ?_); refine bx_ 3 23 #[.int .i64 a1_0, .int .i64 a1_1] rfl rfl ?_; intro gb499 hg w7 BK499 hb; have GE499 := bz HB hg; have ⟨NB498_499, NB499_498⟩ := nb BK498 hg; replace BK498 := bb BK498 hb; replace HB := bs HB hb; clear hb hg) | ((with_reducible refine gd 4 rfl ?_); refine bx_ 4 23 #[.int .i64 0, .int .i64 0] rfl rfl ?_; intro gb500 hg w8 BK500 hb; have GE500 := bz HB hg; have ⟨NB498_500, NB500_498⟩ := nb BK498 hg; have ⟨NB499_500, NB500_499⟩ := nb BK499 hg; replace BK498 := bb BK498 hb; replace BK499 := bb BK499 hb; replace HB := bs HB hb; clear hb hg; have hnb9 := nn NB498_499; have hnb10 := nn NB498_500; have hcz11 := X.k2 BK498) | ((with_reducible refine gc 41 rfl ?_); refine gm_ (some 9) rfl rfl Tryz.func41 (carrefourref02_Norm.calls _ _ _ _ _ _ A3.out) ag ?_; intro w12 hb; replace BK498 := bb BK498 hb; replace BK499 := bb BK499 hb; replace BK500 := bb BK500 hb; replace HB := bs HB hb; (try clear hb); have hcz13 := X.k2 BK498; have hnb14 := nn NB499_500; have hcz15 := X.k2 BK499) | ((with_reducible refine gc 41 rfl ?_); refine gm_ (some 11) rfl rfl Tryz.func41 (carrefourref02_Norm.calls _ _ _ _ _ _ A4.out) ag ?_; intro w16 hb; replace BK498 := bp_ #[.int .i64 t501, .int .i64 t502] BK498 hb; replace BK499 := bb BK499 hb; replace BK500 := bb BK500 hb; replace HB := bs HB hb; (try clear hb); have hcz17 := X.k2 BK499; have hcz18 := X.k2 BK500))
  refine bodyPost_ret (results_ct rfl _ _ gb500 23 #[.int .i64 0, .int .i64 0] (0, 0) _ rfl (br_ BK500) Tryz.underlying23 rfl (by kernel_rfl)) rfl ?_
  exact ⟨ae, bf HB⟩
 ·rw [if_neg c5] at H
  have c5b0 : (t503 == 0) = false := beq_eq_false_iff_ne.mpr c5
  have c5b1 : (t503 != 0) = true := bne_iff_ne.mpr c5
  replace H := bi_ H; obtain ⟨t505, A19, H⟩ := H
  (try dsimp only at H)
  by_cases c20 : t505 = true
  ·subst c20
   have H1 : ((carrefourref02_Of.f k (wrap64 (t501 * t504)) (wrap64 (t502 * t503))).bind fun bt506 => (some (bt506.1, bt506.2.1, bt506.2.2))) = some (r1, r2, r3) := by rw [if_pos rfl] at H; exact H
   clear H
   have H := H1
   clear H1
   replace H := bi_ H; obtain ⟨⟨t506, t507, t508⟩, A21, H⟩ := H
   (try dsimp only at H)
   simp only [Option.some.injEq, Prod.mk.injEq] at H
   obtain ⟨rfl, rfl, rfl⟩ := H
   go_enter Tryz.func20, Tryz.ntmps20
   go_wp2_with (first | ((with_reducible refine gd 2 rfl ?_); refine bx_ 2 23 #[.int .i64 a0_0, .int .i64 a0_1] rfl rfl ?_; intro gb498 hg w22 BK498 hb; have GE498 := bz HB hg; replace HB := bs HB hb; clear hb hg) | ((with_reducible refine gd 3 rfl ?_); refine bx_ 3 23 #[.int .i64 a1_0, .int .i64 a1_1] rfl rfl ?_; intro gb499 hg w23 BK499 hb; have GE499 := bz HB hg; have ⟨NB498_499, NB499_498⟩ := nb BK498 hg; replace BK498 := bb BK498 hb; replace HB := bs HB hb; clear hb hg) | ((with_reducible refine gd 4 rfl ?_); refine bx_ 4 23 #[.int .i64 0, .int .i64 0] rfl rfl ?_; intro gb500 hg w24 BK500 hb; have GE500 := bz HB hg; have ⟨NB498_500, NB500_498⟩ := nb BK498 hg; have ⟨NB499_500, NB500_499⟩ := nb BK499 hg; replace BK498 := bb BK498 hb; replace BK499 := bb BK499 hb; replace HB := bs HB hb; clear hb hg; have hnb25 := nn NB498_499; have hnb26 := nn NB498_500; have hcz27 := X.k2 BK498) | ((with_reducible refine gc 41 rfl ?_); refine gm_ (some 9) rfl rfl Tryz.func41 (carrefourref02_Norm.calls _ _ _ _ _ _ A3.out) ag ?_; intro w28 hb; replace BK498 := bb BK498 hb; replace BK499 := bb BK499 hb; replace BK500 := bb BK500 hb; replace HB := bs HB hb; (try clear hb); have hcz29 := X.k2 BK498; have hnb30 := nn NB499_500; have hcz31 := X.k2 BK499) | ((with_reducible refine gc 41 rfl ?_); refine gm_ (some 11) rfl rfl Tryz.func41 (carrefourref02_Norm.calls _ _ _ _ _ _ A4.out) ag ?_; intro w32 hb; replace BK498 := bp_ #[.int .i64 t501, .int .i64 t502] BK498 hb; replace BK499 := bb BK499 hb; replace BK500 := bb BK500 hb; replace HB := bs HB hb; (try clear hb); have hcz33 := X.k2 BK499; have hcz34 := X.k2 BK498) | ((with_reducible refine gc 42 rfl ?_); refine gm_ (some 18) rfl rfl Tryz.func42 (carrefourref02_few.calls _ _ _ _ _ _ A19.out) ag ?_; intro w35 hb; replace BK498 := bb BK498 hb; replace BK499 := bp_ #[.int .i64 t503, .int .i64 t504] BK499 hb; replace BK500 := bb BK500 hb; replace HB := bs HB hb; (try clear hb); have hcz36 := X.k2 BK498; have hcz37 := X.k2 BK499) | ((with_reducible refine gc 39 rfl ?_); refine gm_ (some 29) rfl rfl Tryz.func39 (carrefourref02_Of.calls _ (wrap64 (t501 * t504)) (wrap64 (t502 * t503)) _ _ _ _ A21.out) ag ?_; intro w38 hb; replace BK500 := bb BK500 hb; replace HB := bs HB hb; (try clear hb); have hcz39 := X.k2 BK500))
   refine bodyPost_ret (results_ct rfl _ _ gb500 23 #[.int .i64 t506, .int .i64 t507] (0, 0) _ rfl (br_ BK500) Tryz.underlying23 rfl (by kernel_rfl)) rfl ?_
   exact ⟨ae, bf HB⟩
  ·replace c20 := Bool.eq_false_iff.mpr c20
   subst c20
   have H1 : ((carrefourref01_Size.f t501).bind fun t509 => ((carrefourref01_Times.f k t509 (IntKind.u64.wrap (t504))).bind fun t510 => ((carrefourref02_trim.f k t510).bind fun t513 => ((carrefourref01_Size.f t503).bind fun t516 => ((carrefourref01_Times.f k (IntKind.u64.wrap (t502)) t516).bind fun t517 => ((carrefourref02_trim.f k t517).bind fun t520 => ((carrefourref02_lowest.f k t513 t520 ((decide (t501 < 0)) != (decide (t503 < 0)))).bind fun bt523 => (some (bt523.1, bt523.2.1, bt523.2.2))))))))) = some (r1, r2, r3) := by rw [if_neg (show ¬ (false = true) by decide)] at H; exact H
   clear H
   have H := H1
   clear H1
   replace H := bi_ H; obtain ⟨t509, A40, H⟩ := H
   (try dsimp only at H)
   replace H := bi_ H; obtain ⟨t510, A41, H⟩ := H
   (try dsimp only at H)
   replace H := bi_ H; obtain ⟨t513, A42, H⟩ := H
   (try dsimp only at H)
   replace H := bi_ H; obtain ⟨t516, A43, H⟩ := H
   (try dsimp only at H)
   replace H := bi_ H; obtain ⟨t517, A44, H⟩ := H
   (try dsimp only at H)
   replace H := bi_ H; obtain ⟨t520, A45, H⟩ := H
   (try dsimp only at H)
   replace H := bi_ H; obtain ⟨⟨t523, t524, t525⟩, A46, H⟩ := H
   (try dsimp only at H)
   simp only [Option.some.injEq, Prod.mk.injEq] at H
   obtain ⟨rfl, rfl, rfl⟩ := H
   go_enter Tryz.func20, Tryz.ntmps20
   try go_wp2_with (first | ((with_reducible refine gd 2 rfl ?_); refine bx_ 2 23 #[.int .i64 a0_0, .int .i64 a0_1] rfl rfl ?_; intro gb498 hg w47 BK498 hb; have GE498 := bz HB hg; replace HB := bs HB hb; clear hb hg) | ((with_reducible refine gd 3 rfl ?_); refine bx_ 3 23 #[.int .i64 a1_0, .int .i64 a1_1] rfl rfl ?_; intro gb499 hg w48 BK499 hb; have GE499 := bz HB hg; have ⟨NB498_499, NB499_498⟩ := nb BK498 hg; replace BK498 := bb BK498 hb; replace HB := bs HB hb; clear hb hg) | ((with_reducible refine gd 4 rfl ?_); refine bx_ 4 23 #[.int .i64 0, .int .i64 0] rfl rfl ?_; intro gb500 hg w49 BK500 hb; have GE500 := bz HB hg; have ⟨NB498_500, NB500_498⟩ := nb BK498 hg; have ⟨NB499_500, NB500_499⟩ := nb BK499 hg; replace BK498 := bb BK498 hb; replace BK499 := bb BK499 hb; replace HB := bs HB hb; clear hb hg; have hnb50 := nn NB498_499; have hnb51 := nn NB498_500; have hcz52 := X.k2 BK498) | ((with_reducible refine gc 41 rfl ?_); refine gm_ (some 9) rfl rfl Tryz.func41 (carrefourref02_Norm.calls _ _ _ _ _ _ A3.out) ag ?_; intro w53 hb; replace BK498 := bb BK498 hb; replace BK499 := bb BK499 hb; replace BK500 := bb BK500 hb; replace HB := bs HB hb; (try clear hb); have hcz54 := X.k2 BK498; have hnb55 := nn NB499_500; have hcz56 := X.k2 BK499) | ((with_reducible refine gc 41 rfl ?_); refine gm_ (some 11) rfl rfl Tryz.func41 (carrefourref02_Norm.calls _ _ _ _ _ _ A4.out) ag ?_; intro w57 hb; replace BK498 := bp_ #[.int .i64 t501, .int .i64 t502] BK498 hb; replace BK499 := bb BK499 hb; replace BK500 := bb BK500 hb; replace HB := bs HB hb; (try clear hb); have hcz58 := X.k2 BK499; have hcz59 := X.k2 BK498) | ((with_reducible refine gc 42 rfl ?_); refine gm_ (some 18) rfl rfl Tryz.func42 (carrefourref02_few.calls _ _ _ _ _ _ A19.out) ag ?_; intro w60 hb; replace BK498 := bb BK498 hb; replace BK499 := bp_ #[.int .i64 t503, .int .i64 t504] BK499 hb; replace BK500 := bb BK500 hb; replace HB := bs HB hb; (try clear hb)))
   replace BK498 := Aside0.mk (blk_drew BK498.out)
   replace BK499 := Aside0.mk (blk_drew BK499.out)
   replace BK500 := Aside0.mk (blk_drew BK500.out)
   replace HB := Aside0.mk (below_drew1 HB.out)
   refine start_ (n := 9) (S := fun w' => c_ w' gb498 0 (.int .i64 t501) ∧ c_ w' gb498 1 (.int .i64 t502) ∧ c_ w' gb499 0 (.int .i64 t503) ∧ c_ w' gb499 1 (.int .i64 t504)) (ds := []) (m_ 9 0) (by kernel_rfl) rfl rfl ⟨ct BK498 0, ct BK498 1, ct BK499 0, ct BK499 1⟩ (fun hHeld => ?_); refine with_tabW carrefourref02_Div.tab7 carrefourref02_Div.bits7 (fun HT_ HW_ => ?_)
   generalize w60.drew = w61 at BK498 BK499 BK500 HB hHeld ⊢
   refine pu_ 0 (some 32) (m_ 9 1) rfl rfl (ao HT_) ?_
   refine pu_ 3 (some 35) (m_ 9 9) rfl rfl (ao HT_) ?_
   refine tk_ 1 (some 33) (m_ 9 11) rfl rfl (tw HT_ HW_) hHeld ?_
   refine tk_ 4 (some 36) (m_ 9 27) rfl rfl (tw HT_ HW_) hHeld ?_
   refine pu_ 5 (some 37) (m_ 9 59) rfl rfl (ao HT_) ?_
   refine o1_ 2 (some 34) (m_ 9 63) rfl rfl (oo HT_) (fun K hK => ?_)
   refine gs_ rfl Tryz.func45 (carrefourref01_Size.calls _ _ _ A40.out) ag ?_
   rintro w' ⟨nd, rfl⟩
   refine hK.out _ _ ⟨ct BK498 0, ct BK498 1, ct BK499 0, ct BK499 1⟩ (fun hHeld => ?_)
   clear hK K
   refine nr_ (some 34) ?_
   refine o1_ 6 (some 38) (m_ 9 127) rfl rfl (oo HT_) (fun K hK => ?_)
   refine goes_ Tryz.func44 (by kernel_rfl) rfl #[.int .u64 t509, .int .u64 (IntKind.u64.wrap (t504))] (by rfl) rfl rfl ag ?_
   with_reducible refine (carrefourref01_Times.calls _ _ (IntKind.u64.wrap (t504)) _ _ A41.out).mono ?_
   rintro e w62 ⟨v511, rfl, ho0, hb⟩
   refine ⟨_, rfl, ?_⟩
   have HO512 := Aside0.mk (Kd.R_lower ho0 (below_size (bf HB)))
   replace BK498 := bb BK498 hb
   replace BK499 := bb BK499 hb
   replace BK500 := bb BK500 hb
   replace HB := bs HB hb
   (try clear hb); (try clear ho0)
   obtain ⟨Ao63, co63, eo63⟩ := Kd.R_slice HO512.out
   (first | subst eo63 | (injection eo63 with f1_ f2_ f3_; have f4_ := f1_.symm; have f5_ := f3_.symm; clear f1_ f2_ f3_; subst f4_; subst f5_))
   refine hK.out _ _ ⟨ct BK498 0, ct BK498 1, ct BK499 0, ct BK499 1⟩ (fun hHeld => ?_)
   clear hK K
   refine nr_ (some 38) ?_
   refine o1_ 7 (some 39) (m_ 9 255) rfl rfl (oo HT_) (fun K hK => ?_)
   refine goes_ Tryz.func43 (by kernel_rfl) rfl #[.slice Ao63 t510.length co63] (by rfl) rfl rfl ag ?_
   with_reducible refine (carrefourref02_trim.calls _ _ _ _ _ _ ?side1 ?side2 A42.out).mono ?_
   (case side1 => exact rc HO512)
   (case side2 => exact (Kd.R_reads' HO512.out).2.1)
   rintro e w64 ⟨v514, rfl, ho0, hb⟩
   refine ⟨_, rfl, ?_⟩
   have HO515 := Aside0.mk (Kd.R_lower (Kd.R_new' ho0 (rl HO512)) (below_size (bf HB)))
   replace HO512 := re_ HO512 (Kd.R_base ho0) hb
   replace BK498 := bb BK498 hb
   replace BK499 := bb BK499 hb
   replace BK500 := bb BK500 hb
   replace HB := bs HB hb
   (try clear hb); (try clear ho0)
   refine hK.out _ _ ⟨ct BK498 0, ct BK498 1, ct BK499 0, ct BK499 1⟩ (fun hHeld => ?_)
   clear hK K
   refine nr_ (some 39) ?_
   refine pu_ 8 (some 6) (m_ 9 511) rfl rfl (ao HT_) ?_
   refine done_ (done_of HT_.out (by kernel_rfl)) ?_
   try go_wp2
   replace HO512 := Aside0.mk (Kd.R_drew HO512.out)
   replace HO515 := Aside0.mk (Kd.R_drew HO515.out)
   replace BK498 := Aside0.mk (blk_drew BK498.out)
   replace BK499 := Aside0.mk (blk_drew BK499.out)
   replace BK500 := Aside0.mk (blk_drew BK500.out)
   replace HB := Aside0.mk (below_drew1 HB.out)
   refine start_ (n := 9) (S := fun w' => c_ w' gb498 0 (.int .i64 t501) ∧ c_ w' gb498 1 (.int .i64 t502) ∧ c_ w' gb499 0 (.int .i64 t503) ∧ c_ w' gb499 1 (.int .i64 t504)) (ds := []) (m_ 9 0) (by kernel_rfl) rfl rfl ⟨ct BK498 0, ct BK498 1, ct BK499 0, ct BK499 1⟩ (fun hHeld => ?_); refine with_tabW carrefourref02_Div.tab8 carrefourref02_Div.bits8 (fun HT_ HW_ => ?_)
   generalize w64.drew = w65 at HO512 HO515 BK498 BK499 BK500 HB hHeld ⊢
   refine pu_ 0 (some 40) (m_ 9 1) rfl rfl (ao HT_) ?_
   refine pu_ 3 (some 43) (m_ 9 9) rfl rfl (ao HT_) ?_
   refine tk_ 1 (some 41) (m_ 9 11) rfl rfl (tw HT_ HW_) hHeld ?_
   refine pu_ 2 (some 42) (m_ 9 15) rfl rfl (ao HT_) ?_
   refine tk_ 4 (some 44) (m_ 9 31) rfl rfl (tw HT_ HW_) hHeld ?_
   refine o1_ 5 (some 45) (m_ 9 63) rfl rfl (oo HT_) (fun K hK => ?_)
   refine gs_ rfl Tryz.func45 (carrefourref01_Size.calls _ _ _ A43.out) ag ?_
   rintro w' ⟨nd, rfl⟩
   refine hK.out _ _ ⟨ct BK498 0, ct BK498 1, ct BK499 0, ct BK499 1⟩ (fun hHeld => ?_)
   clear hK K
   refine nr_ (some 45) ?_
   refine o1_ 6 (some 46) (m_ 9 127) rfl rfl (oo HT_) (fun K hK => ?_)
   refine goes_ Tryz.func44 (by kernel_rfl) rfl #[.int .u64 (IntKind.u64.wrap (t502)), .int .u64 t516] (by rfl) rfl rfl ag ?_
   with_reducible refine (carrefourref01_Times.calls _ (IntKind.u64.wrap (t502)) _ _ _ A44.out).mono ?_
   rintro e w66 ⟨v518, rfl, ho0, hb⟩
   refine ⟨_, rfl, ?_⟩
   have HO519 := Aside0.mk (Kd.R_lower (Kd.R_new' (Kd.R_new' ho0 (rl HO512)) (rl HO515)) (below_size (bf HB)))
   replace HO512 := re_ HO512 (Kd.R_base ho0) hb
   replace HO515 := re_ HO515 (Kd.R_base ho0) hb
   replace BK498 := bb BK498 hb
   replace BK499 := bb BK499 hb
   replace BK500 := bb BK500 hb
   replace HB := bs HB hb
   (try clear hb); (try clear ho0)
   obtain ⟨Ao67, co67, eo67⟩ := Kd.R_slice HO519.out
   (first | subst eo67 | (injection eo67 with f1_ f2_ f3_; have f4_ := f1_.symm; have f5_ := f3_.symm; clear f1_ f2_ f3_; subst f4_; subst f5_))
   refine hK.out _ _ ⟨ct BK498 0, ct BK498 1, ct BK499 0, ct BK499 1⟩ (fun hHeld => ?_)
   clear hK K
   refine nr_ (some 46) ?_
   refine o1_ 7 (some 47) (m_ 9 255) rfl rfl (oo HT_) (fun K hK => ?_)
   refine goes_ Tryz.func43 (by kernel_rfl) rfl #[.slice Ao67 t517.length co67] (by rfl) rfl rfl ag ?_
   with_reducible refine (carrefourref02_trim.calls _ _ _ _ _ _ ?side1 ?side2 A45.out).mono ?_
   (case side1 => exact rc HO519)
   (case side2 => exact (Kd.R_reads' HO519.out).2.1)
   rintro e w68 ⟨v521, rfl, ho0, hb⟩
   refine ⟨_, rfl, ?_⟩
   have HO522 := Aside0.mk (Kd.R_lower (Kd.R_new' (Kd.R_new' (Kd.R_new' ho0 (rl HO512)) (rl HO515)) (rl HO519)) (below_size (bf HB)))
   replace HO512 := re_ HO512 (Kd.R_base ho0) hb
   replace HO515 := re_ HO515 (Kd.R_base ho0) hb
   replace HO519 := re_ HO519 (Kd.R_base ho0) hb
   replace BK498 := bb BK498 hb
   replace BK499 := bb BK499 hb
   replace BK500 := bb BK500 hb
   replace HB := bs HB hb
   (try clear hb); (try clear ho0)
   refine hK.out _ _ ⟨ct BK498 0, ct BK498 1, ct BK499 0, ct BK499 1⟩ (fun hHeld => ?_)
   clear hK K
   refine nr_ (some 47) ?_
   refine pu_ 8 (some 7) (m_ 9 511) rfl rfl (ao HT_) ?_
   refine done_ (done_of HT_.out (by kernel_rfl)) ?_
   have hcz69 := X.k2 BK498
   have hcz70 := X.k2 BK499
   obtain ⟨Ao71, co71, eo71⟩ := Kd.R_slice HO515.out
   subst eo71
   obtain ⟨Ao72, co72, eo72⟩ := Kd.R_slice HO522.out
   subst eo72
   try go_wp2_with (first | ((with_reducible refine gc 46 rfl ?_); refine gm_ (some 57) rfl rfl Tryz.func46 (carrefourref02_lowest.calls _ (fun k_ => some k_ = (.slice Ao71 t513.length co71 : Value).ownBlock) _ _ _ (fun k_ => some k_ = (.slice Ao72 t520.length co72 : Value).ownBlock) _ _ _ ((decide (t501 < 0)) != (decide (t503 < 0))) _ _ _ _ ?side1 ?side2 A46.out) ag ?_; (case side1 => exact Kd.R_V (Kd.R_tight rfl (Kd.R_types (Kd.R_types (Kd.R_types (HO515.out) BK498.out (by decide)) BK499.out (by decide)) BK500.out (by decide)))); (case side2 => exact Kd.R_V (Kd.R_tight rfl (Kd.R_types (Kd.R_types (Kd.R_types (HO522.out) BK498.out (by decide)) BK499.out (by decide)) BK500.out (by decide)))); intro w73 hb; replace HO512 := rb HO512 hb; replace HO515 := rb HO515 hb; replace HO519 := rb HO519 hb; replace HO522 := rb HO522 hb; replace BK500 := bb BK500 hb; replace HB := bs HB hb; (try clear hb); have hcz74 := X.k2 BK500))
   refine bodyPost_ret (results_ct rfl _ _ gb500 23 #[.int .i64 t523, .int .i64 t524] (0, 0) _ rfl (br_ BK500) Tryz.underlying23 rfl (by kernel_rfl)) rfl ?_
   exact ⟨ae, bf HB⟩

/-! ### carrefourref02_Mul: function 40 -/
def carrefourref02_Mul.T5 : Bool × List (List Nat × List Nat) := (true, [([], []), ([0], [0]), ([1], [1]), ([], []), ([3], [3]), ([4, 2], [4]), ([2, 5, 5], [2, 5]), ([6, 6], [6]), ([7, 7, 0, 1, 2, 3, 4, 5, 6, 7], [7])])
def carrefourref02_Mul.B5 : List Nat := [0, 1, 3, 0, 8, 31, 63, 127, 255]
theorem carrefourref02_Mul.tab5 : rtab .any (opsOf Tryz.f40 5) = carrefourref02_Mul.T5 := by kernel_rfl
theorem carrefourref02_Mul.bits5 : waitsOk carrefourref02_Mul.T5.2 carrefourref02_Mul.B5 = true := by kernel_rfl
theorem carrefourref02_Mul.calls (k : Nat) (a0_0 : Int) (a0_1 : Int) (a1_0 : Int) (a1_1 : Int) (r1 : Int) (r2 : Int) (r3 : Int) (w : World) (h : carrefourref02_Mul.f k a0_0 a0_1 a1_0 a1_1 = some (r1, r2, r3)) :
  Calls Tryz.prog 40 #[.agg #[.int .i64 a0_0, .int .i64 a0_1], .agg #[.int .i64 a1_0, .int .i64 a1_1]] w fun e w' => e = .returned (.tuple #[.agg #[.int .i64 r1, .int .i64 r2], .int .i64 r3]) ∧ Below w.heap.size w w' := by
 have hu23 := Tryz.underlying23
 have HB := Aside0.mk (Below.refl w.heap.size w)
 have H : ((carrefourref02_Norm.f k a0_0 a0_1).bind fun bt529 => ((carrefourref02_Norm.f k a1_0 a1_1).bind fun bt531 => ((carrefourref02_few.f bt529.1 bt529.2 bt531.1 bt531.2).bind fun t533 => (if t533 = true then ((carrefourref02_Of.f k (wrap64 (bt529.1 * bt531.1)) (wrap64 (bt529.2 * bt531.2))).bind fun bt534 => (some (bt534.1, bt534.2.1, bt534.2.2))) else ((carrefourref01_Size.f bt529.1).bind fun t537 => ((carrefourref01_Size.f bt531.1).bind fun t538 => ((carrefourref01_Times.f k t537 t538).bind fun t539 => ((carrefourref02_trim.f k t539).bind fun t542 => ((carrefourref01_Times.f k (IntKind.u64.wrap (bt529.2)) (IntKind.u64.wrap (bt531.2))).bind fun t545 => ((carrefourref02_trim.f k t545).bind fun t548 => ((carrefourref02_lowest.f k t542 t548 ((decide (bt529.1 < 0)) != (decide (bt531.1 < 0)))).bind fun bt551 => (some (bt551.1, bt551.2.1, bt551.2.2))))))))))))) = some (r1, r2, r3) := h
 clear h
 replace H := bi_ H; obtain ⟨⟨t529, t530⟩, A3, H⟩ := H
 (try dsimp only at H)
 replace H := bi_ H; obtain ⟨⟨t531, t532⟩, A4, H⟩ := H
 (try dsimp only at H)
 replace H := bi_ H; obtain ⟨t533, A5, H⟩ := H
 (try dsimp only at H)
 by_cases c6 : t533 = true
 ·subst c6
  have H1 : ((carrefourref02_Of.f k (wrap64 (t529 * t531)) (wrap64 (t530 * t532))).bind fun bt534 => (some (bt534.1, bt534.2.1, bt534.2.2))) = some (r1, r2, r3) := by rw [if_pos rfl] at H; exact H
  clear H
  have H := H1
  clear H1
  replace H := bi_ H; obtain ⟨⟨t534, t535, t536⟩, A7, H⟩ := H
  (try dsimp only at H)
  simp only [Option.some.injEq, Prod.mk.injEq] at H
  obtain ⟨rfl, rfl, rfl⟩ := H
  go_enter Tryz.func40, Tryz.ntmps40
  go_wp2_with (first | ((with_reducible refine gd 2 rfl ?_); refine bx_ 2 23 #[.int .i64 a0_0, .int .i64 a0_1] rfl rfl ?_; intro gb526 hg w8 BK526 hb; have GE526 := bz HB hg; replace HB := bs HB hb; clear hb hg) | ((with_reducible refine gd 3 rfl ?_); refine bx_ 3 23 #[.int .i64 a1_0, .int .i64 a1_1] rfl rfl ?_; intro gb527 hg w9 BK527 hb; have GE527 := bz HB hg; have ⟨NB526_527, NB527_526⟩ := nb BK526 hg; replace BK526 := bb BK526 hb; replace HB := bs HB hb; clear hb hg) | ((with_reducible refine gd 4 rfl ?_); refine bx_ 4 23 #[.int .i64 0, .int .i64 0] rfl rfl ?_; intro gb528 hg w10 BK528 hb; have GE528 := bz HB hg; have ⟨NB526_528, NB528_526⟩ := nb BK526 hg; have ⟨NB527_528, NB528_527⟩ := nb BK527 hg; replace BK526 := bb BK526 hb; replace BK527 := bb BK527 hb; replace HB := bs HB hb; clear hb hg; have hnb11 := nn NB526_527; have hnb12 := nn NB526_528; have hcz13 := X.k2 BK526) | ((with_reducible refine gc 41 rfl ?_); refine gm_ (some 9) rfl rfl Tryz.func41 (carrefourref02_Norm.calls _ _ _ _ _ _ A3.out) ag ?_; intro w14 hb; replace BK526 := bb BK526 hb; replace BK527 := bb BK527 hb; replace BK528 := bb BK528 hb; replace HB := bs HB hb; (try clear hb); have hcz15 := X.k2 BK526; have hnb16 := nn NB527_528; have hcz17 := X.k2 BK527) | ((with_reducible refine gc 41 rfl ?_); refine gm_ (some 11) rfl rfl Tryz.func41 (carrefourref02_Norm.calls _ _ _ _ _ _ A4.out) ag ?_; intro w18 hb; replace BK526 := bp_ #[.int .i64 t529, .int .i64 t530] BK526 hb; replace BK527 := bb BK527 hb; replace BK528 := bb BK528 hb; replace HB := bs HB hb; (try clear hb); have hcz19 := X.k2 BK527; have hcz20 := X.k2 BK526) | ((with_reducible refine gc 42 rfl ?_); refine gm_ (some 14) rfl rfl Tryz.func42 (carrefourref02_few.calls _ _ _ _ _ _ A5.out) ag ?_; intro w21 hb; replace BK526 := bb BK526 hb; replace BK527 := bp_ #[.int .i64 t531, .int .i64 t532] BK527 hb; replace BK528 := bb BK528 hb; replace HB := bs HB hb; (try clear hb); have hcz22 := X.k2 BK526; have hcz23 := X.k2 BK527) | ((with_reducible refine gc 39 rfl ?_); refine gm_ (some 25) rfl rfl Tryz.func39 (carrefourref02_Of.calls _ (wrap64 (t529 * t531)) (wrap64 (t530 * t532)) _ _ _ _ A7.out) ag ?_; intro w24 hb; replace BK528 := bb BK528 hb; replace HB := bs HB hb; (try clear hb); have hcz25 := X.k2 BK528))
  refine bodyPost_ret (results_ct rfl _ _ gb528 23 #[.int .i64 t534, .int .i64 t535] (0, 0) _ rfl (br_ BK528) Tryz.underlying23 rfl (by kernel_rfl)) rfl ?_
  exact ⟨ae, bf HB⟩
 ·replace c6 := Bool.eq_false_iff.mpr c6
  subst c6
  have H1 : ((carrefourref01_Size.f t529).bind fun t537 => ((carrefourref01_Size.f t531).bind fun t538 => ((carrefourref01_Times.f k t537 t538).bind fun t539 => ((carrefourref02_trim.f k t539).bind fun t542 => ((carrefourref01_Times.f k (IntKind.u64.wrap (t530)) (IntKind.u64.wrap (t532))).bind fun t545 => ((carrefourref02_trim.f k t545).bind fun t548 => ((carrefourref02_lowest.f k t542 t548 ((decide (t529 < 0)) != (decide (t531 < 0)))).bind fun bt551 => (some (bt551.1, bt551.2.1, bt551.2.2))))))))) = some (r1, r2, r3) := by rw [if_neg (show ¬ (false = true) by decide)] at H; exact H
  clear H
  have H := H1
  clear H1
  replace H := bi_ H; obtain ⟨t537, A26, H⟩ := H
  (try dsimp only at H)
  replace H := bi_ H; obtain ⟨t538, A27, H⟩ := H
  (try dsimp only at H)
  replace H := bi_ H; obtain ⟨t539, A28, H⟩ := H
  (try dsimp only at H)
  replace H := bi_ H; obtain ⟨t542, A29, H⟩ := H
  (try dsimp only at H)
  replace H := bi_ H; obtain ⟨t545, A30, H⟩ := H
  (try dsimp only at H)
  replace H := bi_ H; obtain ⟨t548, A31, H⟩ := H
  (try dsimp only at H)
  replace H := bi_ H; obtain ⟨⟨t551, t552, t553⟩, A32, H⟩ := H
  (try dsimp only at H)
  simp only [Option.some.injEq, Prod.mk.injEq] at H
  obtain ⟨rfl, rfl, rfl⟩ := H
  go_enter Tryz.func40, Tryz.ntmps40
  try go_wp2_with (first | ((with_reducible refine gd 2 rfl ?_); refine bx_ 2 23 #[.int .i64 a0_0, .int .i64 a0_1] rfl rfl ?_; intro gb526 hg w33 BK526 hb; have GE526 := bz HB hg; replace HB := bs HB hb; clear hb hg) | ((with_reducible refine gd 3 rfl ?_); refine bx_ 3 23 #[.int .i64 a1_0, .int .i64 a1_1] rfl rfl ?_; intro gb527 hg w34 BK527 hb; have GE527 := bz HB hg; have ⟨NB526_527, NB527_526⟩ := nb BK526 hg; replace BK526 := bb BK526 hb; replace HB := bs HB hb; clear hb hg) | ((with_reducible refine gd 4 rfl ?_); refine bx_ 4 23 #[.int .i64 0, .int .i64 0] rfl rfl ?_; intro gb528 hg w35 BK528 hb; have GE528 := bz HB hg; have ⟨NB526_528, NB528_526⟩ := nb BK526 hg; have ⟨NB527_528, NB528_527⟩ := nb BK527 hg; replace BK526 := bb BK526 hb; replace BK527 := bb BK527 hb; replace HB := bs HB hb; clear hb hg; have hnb36 := nn NB526_527; have hnb37 := nn NB526_528; have hcz38 := X.k2 BK526) | ((with_reducible refine gc 41 rfl ?_); refine gm_ (some 9) rfl rfl Tryz.func41 (carrefourref02_Norm.calls _ _ _ _ _ _ A3.out) ag ?_; intro w39 hb; replace BK526 := bb BK526 hb; replace BK527 := bb BK527 hb; replace BK528 := bb BK528 hb; replace HB := bs HB hb; (try clear hb); have hcz40 := X.k2 BK526; have hnb41 := nn NB527_528; have hcz42 := X.k2 BK527) | ((with_reducible refine gc 41 rfl ?_); refine gm_ (some 11) rfl rfl Tryz.func41 (carrefourref02_Norm.calls _ _ _ _ _ _ A4.out) ag ?_; intro w43 hb; replace BK526 := bp_ #[.int .i64 t529, .int .i64 t530] BK526 hb; replace BK527 := bb BK527 hb; replace BK528 := bb BK528 hb; replace HB := bs HB hb; (try clear hb); have hcz44 := X.k2 BK527; have hcz45 := X.k2 BK526) | ((with_reducible refine gc 42 rfl ?_); refine gm_ (some 14) rfl rfl Tryz.func42 (carrefourref02_few.calls _ _ _ _ _ _ A5.out) ag ?_; intro w46 hb; replace BK526 := bb BK526 hb; replace BK527 := bp_ #[.int .i64 t531, .int .i64 t532] BK527 hb; replace BK528 := bb BK528 hb; replace HB := bs HB hb; (try clear hb)))
  replace BK526 := Aside0.mk (blk_drew BK526.out)
  replace BK527 := Aside0.mk (blk_drew BK527.out)
  replace BK528 := Aside0.mk (blk_drew BK528.out)
  replace HB := Aside0.mk (below_drew1 HB.out)
  refine start_ (n := 9) (S := fun w' => c_ w' gb526 0 (.int .i64 t529) ∧ c_ w' gb526 1 (.int .i64 t530) ∧ c_ w' gb527 0 (.int .i64 t531) ∧ c_ w' gb527 1 (.int .i64 t532)) (ds := []) (m_ 9 0) (by kernel_rfl) rfl rfl ⟨ct BK526 0, ct BK526 1, ct BK527 0, ct BK527 1⟩ (fun hHeld => ?_); refine with_tabW carrefourref02_Mul.tab5 carrefourref02_Mul.bits5 (fun HT_ HW_ => ?_)
  generalize w46.drew = w47 at BK526 BK527 BK528 HB hHeld ⊢
  refine pu_ 0 (some 28) (m_ 9 1) rfl rfl (ao HT_) ?_
  refine pu_ 3 (some 31) (m_ 9 9) rfl rfl (ao HT_) ?_
  refine tk_ 1 (some 29) (m_ 9 11) rfl rfl (tw HT_ HW_) hHeld ?_
  refine tk_ 4 (some 32) (m_ 9 27) rfl rfl (tw HT_ HW_) hHeld ?_
  refine o1_ 2 (some 30) (m_ 9 31) rfl rfl (oo HT_) (fun K hK => ?_)
  refine gs_ rfl Tryz.func45 (carrefourref01_Size.calls _ _ _ A26.out) ag ?_
  rintro w' ⟨nd, rfl⟩
  refine hK.out _ _ ⟨ct BK526 0, ct BK526 1, ct BK527 0, ct BK527 1⟩ (fun hHeld => ?_)
  clear hK K
  refine nr_ (some 30) ?_
  refine o1_ 5 (some 33) (m_ 9 63) rfl rfl (oo HT_) (fun K hK => ?_)
  refine gs_ rfl Tryz.func45 (carrefourref01_Size.calls _ _ _ A27.out) ag ?_
  rintro w' ⟨nd, rfl⟩
  refine hK.out _ _ ⟨ct BK526 0, ct BK526 1, ct BK527 0, ct BK527 1⟩ (fun hHeld => ?_)
  clear hK K
  refine nr_ (some 33) ?_
  refine o1_ 6 (some 34) (m_ 9 127) rfl rfl (oo HT_) (fun K hK => ?_)
  refine goes_ Tryz.func44 (by kernel_rfl) rfl #[.int .u64 t537, .int .u64 t538] (by rfl) rfl rfl ag ?_
  with_reducible refine (carrefourref01_Times.calls _ _ _ _ _ A28.out).mono ?_
  rintro e w48 ⟨v540, rfl, ho0, hb⟩
  refine ⟨_, rfl, ?_⟩
  have HO541 := Aside0.mk (Kd.R_lower ho0 (below_size (bf HB)))
  replace BK526 := bb BK526 hb
  replace BK527 := bb BK527 hb
  replace BK528 := bb BK528 hb
  replace HB := bs HB hb
  (try clear hb); (try clear ho0)
  obtain ⟨Ao49, co49, eo49⟩ := Kd.R_slice HO541.out
  (first | subst eo49 | (injection eo49 with f1_ f2_ f3_; have f4_ := f1_.symm; have f5_ := f3_.symm; clear f1_ f2_ f3_; subst f4_; subst f5_))
  refine hK.out _ _ ⟨ct BK526 0, ct BK526 1, ct BK527 0, ct BK527 1⟩ (fun hHeld => ?_)
  clear hK K
  refine nr_ (some 34) ?_
  refine o1_ 7 (some 35) (m_ 9 255) rfl rfl (oo HT_) (fun K hK => ?_)
  refine goes_ Tryz.func43 (by kernel_rfl) rfl #[.slice Ao49 t539.length co49] (by rfl) rfl rfl ag ?_
  with_reducible refine (carrefourref02_trim.calls _ _ _ _ _ _ ?side1 ?side2 A29.out).mono ?_
  (case side1 => exact rc HO541)
  (case side2 => exact (Kd.R_reads' HO541.out).2.1)
  rintro e w50 ⟨v543, rfl, ho0, hb⟩
  refine ⟨_, rfl, ?_⟩
  have HO544 := Aside0.mk (Kd.R_lower (Kd.R_new' ho0 (rl HO541)) (below_size (bf HB)))
  replace HO541 := re_ HO541 (Kd.R_base ho0) hb
  replace BK526 := bb BK526 hb
  replace BK527 := bb BK527 hb
  replace BK528 := bb BK528 hb
  replace HB := bs HB hb
  (try clear hb); (try clear ho0)
  refine hK.out _ _ ⟨ct BK526 0, ct BK526 1, ct BK527 0, ct BK527 1⟩ (fun hHeld => ?_)
  clear hK K
  refine nr_ (some 35) ?_
  refine pu_ 8 (some 6) (m_ 9 511) rfl rfl (ao HT_) ?_
  refine done_ (done_of HT_.out (by kernel_rfl)) ?_
  have hcz51 := X.k2 BK526
  have hcz52 := X.k2 BK527
  try go_wp2_with (first | ((with_reducible refine gc 44 rfl ?_); refine gl_ (some 42) rfl rfl Tryz.func44 ((carrefourref01_Times.calls _ (IntKind.u64.wrap (t530)) (IntKind.u64.wrap (t532)) _ _ A30.out).mono ?_) ag; rintro e w53 ⟨v546, rfl, ho0, hb⟩; refine ⟨_, rfl, ?_⟩; have HO547 := Aside0.mk (Kd.R_lower (Kd.R_new' (Kd.R_new' ho0 (rl HO541)) (rl HO544)) (below_size (bf HB))); replace HO541 := re_ HO541 (Kd.R_base ho0) hb; replace HO544 := re_ HO544 (Kd.R_base ho0) hb; replace BK526 := bb BK526 hb; replace BK527 := bb BK527 hb; replace BK528 := bb BK528 hb; replace HB := bs HB hb; (try clear hb); (try clear ho0); obtain ⟨Ao54, co54, eo54⟩ := Kd.R_slice HO547.out; subst eo54) | ((with_reducible refine gc 43 rfl ?_); refine gl_ (some 43) rfl rfl Tryz.func43 ((carrefourref02_trim.calls _ _ _ _ _ _ ?side1 ?side2 A31.out).mono ?_) ag; (case side1 => exact rc HO547); (case side2 => exact (Kd.R_reads' HO547.out).2.1); rintro e w55 ⟨v549, rfl, ho0, hb⟩; refine ⟨_, rfl, ?_⟩; have HO550 := Aside0.mk (Kd.R_lower (Kd.R_new' (Kd.R_new' (Kd.R_new' ho0 (rl HO541)) (rl HO544)) (rl HO547)) (below_size (bf HB))); replace HO541 := re_ HO541 (Kd.R_base ho0) hb; replace HO544 := re_ HO544 (Kd.R_base ho0) hb; replace HO547 := re_ HO547 (Kd.R_base ho0) hb; replace BK526 := bb BK526 hb; replace BK527 := bb BK527 hb; replace BK528 := bb BK528 hb; replace HB := bs HB hb; (try clear hb); (try clear ho0); have hcz56 := X.k2 BK526; have hcz57 := X.k2 BK527; obtain ⟨Ao58, co58, eo58⟩ := Kd.R_slice HO544.out; subst eo58; obtain ⟨Ao59, co59, eo59⟩ := Kd.R_slice HO550.out; subst eo59) | ((with_reducible refine gc 46 rfl ?_); refine gm_ (some 53) rfl rfl Tryz.func46 (carrefourref02_lowest.calls _ (fun k_ => some k_ = (.slice Ao58 t542.length co58 : Value).ownBlock) _ _ _ (fun k_ => some k_ = (.slice Ao59 t548.length co59 : Value).ownBlock) _ _ _ ((decide (t529 < 0)) != (decide (t531 < 0))) _ _ _ _ ?side1 ?side2 A32.out) ag ?_; (case side1 => exact Kd.R_V (Kd.R_tight rfl (Kd.R_types (Kd.R_types (Kd.R_types (HO544.out) BK526.out (by decide)) BK527.out (by decide)) BK528.out (by decide)))); (case side2 => exact Kd.R_V (Kd.R_tight rfl (Kd.R_types (Kd.R_types (Kd.R_types (HO550.out) BK526.out (by decide)) BK527.out (by decide)) BK528.out (by decide)))); intro w60 hb; replace HO541 := rb HO541 hb; replace HO544 := rb HO544 hb; replace HO547 := rb HO547 hb; replace HO550 := rb HO550 hb; replace BK528 := bb BK528 hb; replace HB := bs HB hb; (try clear hb); have hcz61 := X.k2 BK528))
  refine bodyPost_ret (results_ct rfl _ _ gb528 23 #[.int .i64 t551, .int .i64 t552] (0, 0) _ rfl (br_ BK528) Tryz.underlying23 rfl (by kernel_rfl)) rfl ?_
  exact ⟨ae, bf HB⟩

/-! ### carrefourref09_Volume: function 19 -/
theorem carrefourref09_Volume.calls (k : Nat) (a0_0 : ByteArray) (a0_1 : Int) (a0_2 : Int) (a0_3 : Int) (a0_4 : Int) (a0_5 : Int) (a0_6 : Int) (a0_7 : Int) (a0_8 : Int) (a0_9 : Int) (a0_10 : Int) (a1_0 : Int) (a1_1 : Int) (r1 : Int) (r2 : Int) (r3 : Int) (w : World) (h : carrefourref09_Volume.f k a0_0 a0_1 a0_2 a0_3 a0_4 a0_5 a0_6 a0_7 a0_8 a0_9 a0_10 a1_0 a1_1 = some (r1, r2, r3)) :
  Calls Tryz.prog 19 #[.agg #[.string a0_0, .int .i64 a0_1, .int .i64 a0_2, .int .i64 a0_3, .int .i64 a0_4, .int .i64 a0_5, .int .i64 a0_6, .int .i64 a0_7, .int .i64 a0_8, .int .i64 a0_9, .int .i64 a0_10], .agg #[.int .i64 a1_0, .int .i64 a1_1]] w fun e w' => e = .returned (.tuple #[.agg #[.int .i64 r1, .int .i64 r2], .int .i64 r3]) ∧ Below w.heap.size w w' := by
 have hu48 := Tryz.underlying48
 have hu23 := Tryz.underlying23
 have HB := Aside0.mk (Below.refl w.heap.size w)
 have H : ((carrefourref02_Of.f k a0_3 a0_4).bind fun bt557 => (if bt557.2.2 = 0 then ((carrefourref02_Mul.f k bt557.1 bt557.2.1 a0_1 1).bind fun bt561 => (if bt561.2.2 = 0 then ((carrefourref02_Of.f k a1_0 a1_1).bind fun bt565 => (if bt565.2.2 = 0 then ((carrefourref02_Div.f k bt561.1 bt561.2.1 bt565.1 bt565.2.1).bind fun bt569 => (some (bt569.1, bt569.2.1, bt569.2.2))) else (some (0, 0, bt565.2.2)))) else (some (0, 0, bt561.2.2)))) else (some (0, 0, bt557.2.2)))) = some (r1, r2, r3) := h
 clear h
 replace H := bi_ H; obtain ⟨⟨t557, t558, t559⟩, A3, H⟩ := H
 (try dsimp only at H)
 by_cases c4 : t559 = 0
 ·rw [if_pos c4] at H
  have c4b0 : (t559 == 0) = true := beq_iff_eq.mpr c4
  have c4b1 : (t559 != 0) = false := bne_eq_false_iff_eq.mpr c4
  clear c4
  replace H := bi_ H; obtain ⟨⟨t561, t562, t563⟩, A5, H⟩ := H
  (try dsimp only at H)
  by_cases c6 : t563 = 0
  ·rw [if_pos c6] at H
   have c6b0 : (t563 == 0) = true := beq_iff_eq.mpr c6
   have c6b1 : (t563 != 0) = false := bne_eq_false_iff_eq.mpr c6
   clear c6
   replace H := bi_ H; obtain ⟨⟨t565, t566, t567⟩, A7, H⟩ := H
   (try dsimp only at H)
   by_cases c8 : t567 = 0
   ·rw [if_pos c8] at H
    have c8b0 : (t567 == 0) = true := beq_iff_eq.mpr c8
    have c8b1 : (t567 != 0) = false := bne_eq_false_iff_eq.mpr c8
    clear c8
    replace H := bi_ H; obtain ⟨⟨t569, t570, t571⟩, A9, H⟩ := H
    (try dsimp only at H)
    simp only [Option.some.injEq, Prod.mk.injEq] at H
    obtain ⟨rfl, rfl, rfl⟩ := H
    go_enter Tryz.func19, Tryz.ntmps19
    go_wp2_with (first | ((with_reducible refine gd 2 rfl ?_); refine bx_ 2 48 #[.string a0_0, .int .i64 a0_1, .int .i64 a0_2, .int .i64 a0_3, .int .i64 a0_4, .int .i64 a0_5, .int .i64 a0_6, .int .i64 a0_7, .int .i64 a0_8, .int .i64 a0_9, .int .i64 a0_10] rfl rfl ?_; intro gb554 hg w10 BK554 hb; have GE554 := bz HB hg; replace HB := bs HB hb; clear hb hg) | ((with_reducible refine gd 3 rfl ?_); refine bx_ 3 23 #[.int .i64 a1_0, .int .i64 a1_1] rfl rfl ?_; intro gb555 hg w11 BK555 hb; have GE555 := bz HB hg; have ⟨NB554_555, NB555_554⟩ := nb BK554 hg; replace BK554 := bb BK554 hb; replace HB := bs HB hb; clear hb hg) | ((with_reducible refine gd 4 rfl ?_); refine bx_ 4 23 #[.int .i64 0, .int .i64 0] rfl rfl ?_; intro gb556 hg w12 BK556 hb; have GE556 := bz HB hg; have ⟨NB554_556, NB556_554⟩ := nb BK554 hg; have ⟨NB555_556, NB556_555⟩ := nb BK555 hg; replace BK554 := bb BK554 hb; replace BK555 := bb BK555 hb; replace HB := bs HB hb; clear hb hg; have hnb13 := nn NB554_555; have hnb14 := nn NB554_556; have hcz15 := X.k11 BK554) | ((with_reducible refine gc 39 rfl ?_); refine gm_ (some 17) rfl rfl Tryz.func39 (carrefourref02_Of.calls _ _ _ _ _ _ _ A3.out) ag ?_; intro w16 hb; replace BK554 := bb BK554 hb; replace BK555 := bb BK555 hb; replace BK556 := bb BK556 hb; replace HB := bs HB hb; (try clear hb)) | ((with_reducible refine gd 6 rfl ?_); refine bx_ 6 23 #[.int .i64 0, .int .i64 0] rfl rfl ?_; intro gb560 hg w17 BK560 hb; have GE560 := bz HB hg; have ⟨NB554_560, NB560_554⟩ := nb BK554 hg; have ⟨NB555_560, NB560_555⟩ := nb BK555 hg; have ⟨NB556_560, NB560_556⟩ := nb BK556 hg; replace BK554 := bb BK554 hb; replace BK555 := bb BK555 hb; replace BK556 := bb BK556 hb; replace HB := bs HB hb; clear hb hg; have hnb18 := nn NB560_554; have hnb19 := nn NB560_555; have hnb20 := nn NB560_556; have hcz21 := X.k2 BK560; have hcz22 := X.k11 BK554) | ((with_reducible refine gc 40 rfl ?_); refine gm_ (some 29) rfl rfl Tryz.func40 (carrefourref02_Mul.calls _ _ _ _ _ _ _ _ _ A5.out) ag ?_; intro w23 hb; replace BK554 := bb BK554 hb; replace BK555 := bb BK555 hb; replace BK556 := bb BK556 hb; replace BK560 := bp_ #[.int .i64 t557, .int .i64 t558] BK560 hb; replace HB := bs HB hb; (try clear hb)) | ((with_reducible refine gd 8 rfl ?_); refine bx_ 8 23 #[.int .i64 0, .int .i64 0] rfl rfl ?_; intro gb564 hg w24 BK564 hb; have GE564 := bz HB hg; have ⟨NB554_564, NB564_554⟩ := nb BK554 hg; have ⟨NB555_564, NB564_555⟩ := nb BK555 hg; have ⟨NB556_564, NB564_556⟩ := nb BK556 hg; have ⟨NB560_564, NB564_560⟩ := nb BK560 hg; replace BK554 := bb BK554 hb; replace BK555 := bb BK555 hb; replace BK556 := bb BK556 hb; replace BK560 := bb BK560 hb; replace HB := bs HB hb; clear hb hg; have hnb25 := nn NB564_554; have hnb26 := nn NB564_555; have hnb27 := nn NB564_556; have hnb28 := nn NB564_560; have hcz29 := X.k2 BK564; have hnb30 := nn NB555_556; have hcz31 := X.k2 BK555) | ((with_reducible refine gc 39 rfl ?_); refine gm_ (some 41) rfl rfl Tryz.func39 (carrefourref02_Of.calls _ _ _ _ _ _ _ A7.out) ag ?_; intro w32 hb; replace BK554 := bb BK554 hb; replace BK555 := bb BK555 hb; replace BK556 := bb BK556 hb; replace BK560 := bb BK560 hb; replace BK564 := bp_ #[.int .i64 t561, .int .i64 t562] BK564 hb; replace HB := bs HB hb; (try clear hb)) | ((with_reducible refine gd 9 rfl ?_); refine bx_ 9 23 #[.int .i64 0, .int .i64 0] rfl rfl ?_; intro gb568 hg w33 BK568 hb; have GE568 := bz HB hg; have ⟨NB554_568, NB568_554⟩ := nb BK554 hg; have ⟨NB555_568, NB568_555⟩ := nb BK555 hg; have ⟨NB556_568, NB568_556⟩ := nb BK556 hg; have ⟨NB560_568, NB568_560⟩ := nb BK560 hg; have ⟨NB564_568, NB568_564⟩ := nb BK564 hg; replace BK556 := bb BK556 hb; replace BK564 := bb BK564 hb; replace HB := bs HB hb; clear hb hg; have hnb34 := nn NB568_554; have hnb35 := nn NB568_555; have hnb36 := nn NB568_556; have hnb37 := nn NB568_560; have hnb38 := nn NB568_564; have hcz39 := X.k2 BK568; have hcz40 := X.k2 BK564) | ((with_reducible refine gc 20 rfl ?_); refine gm_ (some 50) rfl rfl Tryz.func20 (carrefourref02_Div.calls _ _ _ _ _ _ _ _ _ A9.out) ag ?_; intro w41 hb; replace BK556 := bb BK556 hb; replace BK568 := bp_ #[.int .i64 t565, .int .i64 t566] BK568 hb; replace HB := bs HB hb; (try clear hb); have hcz42 := X.k2 BK556))
    refine bodyPost_ret (results_ct rfl _ _ gb556 23 #[.int .i64 t569, .int .i64 t570] (0, 0) _ rfl (br_ BK556) Tryz.underlying23 rfl (by kernel_rfl)) rfl ?_
    exact ⟨ae, bf HB⟩
   ·rw [if_neg c8] at H
    have c8b0 : (t567 == 0) = false := beq_eq_false_iff_ne.mpr c8
    have c8b1 : (t567 != 0) = true := bne_iff_ne.mpr c8
    simp only [Option.some.injEq, Prod.mk.injEq] at H
    obtain ⟨rfl, rfl, rfl⟩ := H
    go_enter Tryz.func19, Tryz.ntmps19
    go_wp2_with (first | ((with_reducible refine gd 2 rfl ?_); refine bx_ 2 48 #[.string a0_0, .int .i64 a0_1, .int .i64 a0_2, .int .i64 a0_3, .int .i64 a0_4, .int .i64 a0_5, .int .i64 a0_6, .int .i64 a0_7, .int .i64 a0_8, .int .i64 a0_9, .int .i64 a0_10] rfl rfl ?_; intro gb554 hg w43 BK554 hb; have GE554 := bz HB hg; replace HB := bs HB hb; clear hb hg) | ((with_reducible refine gd 3 rfl ?_); refine bx_ 3 23 #[.int .i64 a1_0, .int .i64 a1_1] rfl rfl ?_; intro gb555 hg w44 BK555 hb; have GE555 := bz HB hg; have ⟨NB554_555, NB555_554⟩ := nb BK554 hg; replace BK554 := bb BK554 hb; replace HB := bs HB hb; clear hb hg) | ((with_reducible refine gd 4 rfl ?_); refine bx_ 4 23 #[.int .i64 0, .int .i64 0] rfl rfl ?_; intro gb556 hg w45 BK556 hb; have GE556 := bz HB hg; have ⟨NB554_556, NB556_554⟩ := nb BK554 hg; have ⟨NB555_556, NB556_555⟩ := nb BK555 hg; replace BK554 := bb BK554 hb; replace BK555 := bb BK555 hb; replace HB := bs HB hb; clear hb hg; have hnb46 := nn NB554_555; have hnb47 := nn NB554_556; have hcz48 := X.k11 BK554) | ((with_reducible refine gc 39 rfl ?_); refine gm_ (some 17) rfl rfl Tryz.func39 (carrefourref02_Of.calls _ _ _ _ _ _ _ A3.out) ag ?_; intro w49 hb; replace BK554 := bb BK554 hb; replace BK555 := bb BK555 hb; replace BK556 := bb BK556 hb; replace HB := bs HB hb; (try clear hb)) | ((with_reducible refine gd 6 rfl ?_); refine bx_ 6 23 #[.int .i64 0, .int .i64 0] rfl rfl ?_; intro gb560 hg w50 BK560 hb; have GE560 := bz HB hg; have ⟨NB554_560, NB560_554⟩ := nb BK554 hg; have ⟨NB555_560, NB560_555⟩ := nb BK555 hg; have ⟨NB556_560, NB560_556⟩ := nb BK556 hg; replace BK554 := bb BK554 hb; replace BK555 := bb BK555 hb; replace BK556 := bb BK556 hb; replace HB := bs HB hb; clear hb hg; have hnb51 := nn NB560_554; have hnb52 := nn NB560_555; have hnb53 := nn NB560_556; have hcz54 := X.k2 BK560; have hcz55 := X.k11 BK554) | ((with_reducible refine gc 40 rfl ?_); refine gm_ (some 29) rfl rfl Tryz.func40 (carrefourref02_Mul.calls _ _ _ _ _ _ _ _ _ A5.out) ag ?_; intro w56 hb; replace BK554 := bb BK554 hb; replace BK555 := bb BK555 hb; replace BK556 := bb BK556 hb; replace BK560 := bp_ #[.int .i64 t557, .int .i64 t558] BK560 hb; replace HB := bs HB hb; (try clear hb)) | ((with_reducible refine gd 8 rfl ?_); refine bx_ 8 23 #[.int .i64 0, .int .i64 0] rfl rfl ?_; intro gb564 hg w57 BK564 hb; have GE564 := bz HB hg; have ⟨NB554_564, NB564_554⟩ := nb BK554 hg; have ⟨NB555_564, NB564_555⟩ := nb BK555 hg; have ⟨NB556_564, NB564_556⟩ := nb BK556 hg; have ⟨NB560_564, NB564_560⟩ := nb BK560 hg; replace BK554 := bb BK554 hb; replace BK555 := bb BK555 hb; replace BK556 := bb BK556 hb; replace BK560 := bb BK560 hb; replace HB := bs HB hb; clear hb hg; have hnb58 := nn NB564_554; have hnb59 := nn NB564_555; have hnb60 := nn NB564_556; have hnb61 := nn NB564_560; have hcz62 := X.k2 BK564; have hnb63 := nn NB555_556; have hcz64 := X.k2 BK555) | ((with_reducible refine gc 39 rfl ?_); refine gm_ (some 41) rfl rfl Tryz.func39 (carrefourref02_Of.calls _ _ _ _ _ _ _ A7.out) ag ?_; intro w65 hb; replace BK554 := bb BK554 hb; replace BK555 := bb BK555 hb; replace BK556 := bb BK556 hb; replace BK560 := bb BK560 hb; replace BK564 := bp_ #[.int .i64 t561, .int .i64 t562] BK564 hb; replace HB := bs HB hb; (try clear hb)) | ((with_reducible refine gd 9 rfl ?_); refine bx_ 9 23 #[.int .i64 0, .int .i64 0] rfl rfl ?_; intro gb568 hg w66 BK568 hb; have GE568 := bz HB hg; have ⟨NB554_568, NB568_554⟩ := nb BK554 hg; have ⟨NB555_568, NB568_555⟩ := nb BK555 hg; have ⟨NB556_568, NB568_556⟩ := nb BK556 hg; have ⟨NB560_568, NB568_560⟩ := nb BK560 hg; have ⟨NB564_568, NB568_564⟩ := nb BK564 hg; replace BK556 := bb BK556 hb; replace HB := bs HB hb; clear hb hg; have hnb67 := nn NB568_554; have hnb68 := nn NB568_555; have hnb69 := nn NB568_556; have hnb70 := nn NB568_560; have hnb71 := nn NB568_564; have hcz72 := X.k2 BK568; have hcz73 := X.k2 BK556))
    refine bodyPost_ret (results_ct rfl _ _ gb556 23 #[.int .i64 0, .int .i64 0] (0, 0) _ rfl (br_ BK556) Tryz.underlying23 rfl (by kernel_rfl)) rfl ?_
    exact ⟨ae, bf HB⟩
  ·rw [if_neg c6] at H
   have c6b0 : (t563 == 0) = false := beq_eq_false_iff_ne.mpr c6
   have c6b1 : (t563 != 0) = true := bne_iff_ne.mpr c6
   simp only [Option.some.injEq, Prod.mk.injEq] at H
   obtain ⟨rfl, rfl, rfl⟩ := H
   go_enter Tryz.func19, Tryz.ntmps19
   go_wp2_with (first | ((with_reducible refine gd 2 rfl ?_); refine bx_ 2 48 #[.string a0_0, .int .i64 a0_1, .int .i64 a0_2, .int .i64 a0_3, .int .i64 a0_4, .int .i64 a0_5, .int .i64 a0_6, .int .i64 a0_7, .int .i64 a0_8, .int .i64 a0_9, .int .i64 a0_10] rfl rfl ?_; intro gb554 hg w74 BK554 hb; have GE554 := bz HB hg; replace HB := bs HB hb; clear hb hg) | ((with_reducible refine gd 3 rfl ?_); refine bx_ 3 23 #[.int .i64 a1_0, .int .i64 a1_1] rfl rfl ?_; intro gb555 hg w75 BK555 hb; have GE555 := bz HB hg; have ⟨NB554_555, NB555_554⟩ := nb BK554 hg; replace BK554 := bb BK554 hb; replace HB := bs HB hb; clear hb hg) | ((with_reducible refine gd 4 rfl ?_); refine bx_ 4 23 #[.int .i64 0, .int .i64 0] rfl rfl ?_; intro gb556 hg w76 BK556 hb; have GE556 := bz HB hg; have ⟨NB554_556, NB556_554⟩ := nb BK554 hg; have ⟨NB555_556, NB556_555⟩ := nb BK555 hg; replace BK554 := bb BK554 hb; replace BK555 := bb BK555 hb; replace HB := bs HB hb; clear hb hg; have hnb77 := nn NB554_555; have hnb78 := nn NB554_556; have hcz79 := X.k11 BK554) | ((with_reducible refine gc 39 rfl ?_); refine gm_ (some 17) rfl rfl Tryz.func39 (carrefourref02_Of.calls _ _ _ _ _ _ _ A3.out) ag ?_; intro w80 hb; replace BK554 := bb BK554 hb; replace BK555 := bb BK555 hb; replace BK556 := bb BK556 hb; replace HB := bs HB hb; (try clear hb)) | ((with_reducible refine gd 6 rfl ?_); refine bx_ 6 23 #[.int .i64 0, .int .i64 0] rfl rfl ?_; intro gb560 hg w81 BK560 hb; have GE560 := bz HB hg; have ⟨NB554_560, NB560_554⟩ := nb BK554 hg; have ⟨NB555_560, NB560_555⟩ := nb BK555 hg; have ⟨NB556_560, NB560_556⟩ := nb BK556 hg; replace BK554 := bb BK554 hb; replace BK555 := bb BK555 hb; replace BK556 := bb BK556 hb; replace HB := bs HB hb; clear hb hg; have hnb82 := nn NB560_554; have hnb83 := nn NB560_555; have hnb84 := nn NB560_556; have hcz85 := X.k2 BK560; have hcz86 := X.k11 BK554) | ((with_reducible refine gc 40 rfl ?_); refine gm_ (some 29) rfl rfl Tryz.func40 (carrefourref02_Mul.calls _ _ _ _ _ _ _ _ _ A5.out) ag ?_; intro w87 hb; replace BK554 := bb BK554 hb; replace BK555 := bb BK555 hb; replace BK556 := bb BK556 hb; replace BK560 := bp_ #[.int .i64 t557, .int .i64 t558] BK560 hb; replace HB := bs HB hb; (try clear hb)) | ((with_reducible refine gd 8 rfl ?_); refine bx_ 8 23 #[.int .i64 0, .int .i64 0] rfl rfl ?_; intro gb564 hg w88 BK564 hb; have GE564 := bz HB hg; have ⟨NB554_564, NB564_554⟩ := nb BK554 hg; have ⟨NB555_564, NB564_555⟩ := nb BK555 hg; have ⟨NB556_564, NB564_556⟩ := nb BK556 hg; have ⟨NB560_564, NB564_560⟩ := nb BK560 hg; replace BK556 := bb BK556 hb; replace HB := bs HB hb; clear hb hg; have hnb89 := nn NB564_554; have hnb90 := nn NB564_555; have hnb91 := nn NB564_556; have hnb92 := nn NB564_560; have hcz93 := X.k2 BK564; have hnb94 := nn NB556_555; have hcz95 := X.k2 BK556))
   refine bodyPost_ret (results_ct rfl _ _ gb556 23 #[.int .i64 0, .int .i64 0] (0, 0) _ rfl (br_ BK556) Tryz.underlying23 rfl (by kernel_rfl)) rfl ?_
   exact ⟨ae, bf HB⟩
 ·rw [if_neg c4] at H
  have c4b0 : (t559 == 0) = false := beq_eq_false_iff_ne.mpr c4
  have c4b1 : (t559 != 0) = true := bne_iff_ne.mpr c4
  simp only [Option.some.injEq, Prod.mk.injEq] at H
  obtain ⟨rfl, rfl, rfl⟩ := H
  go_enter Tryz.func19, Tryz.ntmps19
  go_wp2_with (first | ((with_reducible refine gd 2 rfl ?_); refine bx_ 2 48 #[.string a0_0, .int .i64 a0_1, .int .i64 a0_2, .int .i64 a0_3, .int .i64 a0_4, .int .i64 a0_5, .int .i64 a0_6, .int .i64 a0_7, .int .i64 a0_8, .int .i64 a0_9, .int .i64 a0_10] rfl rfl ?_; intro gb554 hg w96 BK554 hb; have GE554 := bz HB hg; replace HB := bs HB hb; clear hb hg) | ((with_reducible refine gd 3 rfl ?_); refine bx_ 3 23 #[.int .i64 a1_0, .int .i64 a1_1] rfl rfl ?_; intro gb555 hg w97 BK555 hb; have GE555 := bz HB hg; have ⟨NB554_555, NB555_554⟩ := nb BK554 hg; replace BK554 := bb BK554 hb; replace HB := bs HB hb; clear hb hg) | ((with_reducible refine gd 4 rfl ?_); refine bx_ 4 23 #[.int .i64 0, .int .i64 0] rfl rfl ?_; intro gb556 hg w98 BK556 hb; have GE556 := bz HB hg; have ⟨NB554_556, NB556_554⟩ := nb BK554 hg; have ⟨NB555_556, NB556_555⟩ := nb BK555 hg; replace BK554 := bb BK554 hb; replace BK555 := bb BK555 hb; replace HB := bs HB hb; clear hb hg; have hnb99 := nn NB554_555; have hnb100 := nn NB554_556; have hcz101 := X.k11 BK554) | ((with_reducible refine gc 39 rfl ?_); refine gm_ (some 17) rfl rfl Tryz.func39 (carrefourref02_Of.calls _ _ _ _ _ _ _ A3.out) ag ?_; intro w102 hb; replace BK554 := bb BK554 hb; replace BK555 := bb BK555 hb; replace BK556 := bb BK556 hb; replace HB := bs HB hb; (try clear hb)) | ((with_reducible refine gd 6 rfl ?_); refine bx_ 6 23 #[.int .i64 0, .int .i64 0] rfl rfl ?_; intro gb560 hg w103 BK560 hb; have GE560 := bz HB hg; have ⟨NB554_560, NB560_554⟩ := nb BK554 hg; have ⟨NB555_560, NB560_555⟩ := nb BK555 hg; have ⟨NB556_560, NB560_556⟩ := nb BK556 hg; replace BK556 := bb BK556 hb; replace HB := bs HB hb; clear hb hg; have hnb104 := nn NB560_554; have hnb105 := nn NB560_555; have hnb106 := nn NB560_556; have hcz107 := X.k2 BK560; have hnb108 := nn NB556_555; have hcz109 := X.k2 BK556))
  refine bodyPost_ret (results_ct rfl _ _ gb556 23 #[.int .i64 0, .int .i64 0] (0, 0) _ rfl (br_ BK556) Tryz.underlying23 rfl (by kernel_rfl)) rfl ?_
  exact ⟨ae, bf HB⟩

/-! ### carrefourref09_Ratio: function 11 -/
theorem carrefourref09_Ratio.calls (k : Nat) (a0_0 : ByteArray) (a0_1 : Int) (a0_2 : Int) (a0_3 : Int) (a0_4 : Int) (a0_5 : Int) (a0_6 : Int) (a0_7 : Int) (a0_8 : Int) (a0_9 : Int) (a0_10 : Int) (a1_0 : Int) (a1_1 : Int) (r1 : Int) (r2 : Int) (r3 : Int) (w : World) (h : carrefourref09_Ratio.f k a0_0 a0_1 a0_2 a0_3 a0_4 a0_5 a0_6 a0_7 a0_8 a0_9 a0_10 a1_0 a1_1 = some (r1, r2, r3)) :
  Calls Tryz.prog 11 #[.agg #[.string a0_0, .int .i64 a0_1, .int .i64 a0_2, .int .i64 a0_3, .int .i64 a0_4, .int .i64 a0_5, .int .i64 a0_6, .int .i64 a0_7, .int .i64 a0_8, .int .i64 a0_9, .int .i64 a0_10], .agg #[.int .i64 a1_0, .int .i64 a1_1]] w fun e w' => e = .returned (.tuple #[.agg #[.int .i64 r1, .int .i64 r2], .int .i64 r3]) ∧ Below w.heap.size w w' := by
 have hu48 := Tryz.underlying48
 have hu23 := Tryz.underlying23
 have HB := Aside0.mk (Below.refl w.heap.size w)
 have H : ((carrefourref09_Volume.f k a0_0 a0_1 a0_2 a0_3 a0_4 a0_5 a0_6 a0_7 a0_8 a0_9 a0_10 a1_0 a1_1).bind fun bt575 => (if bt575.2.2 = 0 then ((carrefourref02_Div.f k bt575.1 bt575.2.1 a0_2 1).bind fun bt579 => (some (bt579.1, bt579.2.1, bt579.2.2))) else (some (0, 0, bt575.2.2)))) = some (r1, r2, r3) := h
 clear h
 replace H := bi_ H; obtain ⟨⟨t575, t576, t577⟩, A3, H⟩ := H
 (try dsimp only at H)
 by_cases c4 : t577 = 0
 ·rw [if_pos c4] at H
  have c4b0 : (t577 == 0) = true := beq_iff_eq.mpr c4
  have c4b1 : (t577 != 0) = false := bne_eq_false_iff_eq.mpr c4
  clear c4
  replace H := bi_ H; obtain ⟨⟨t579, t580, t581⟩, A5, H⟩ := H
  (try dsimp only at H)
  simp only [Option.some.injEq, Prod.mk.injEq] at H
  obtain ⟨rfl, rfl, rfl⟩ := H
  go_enter Tryz.func11, Tryz.ntmps11
  go_wp2_with (first | ((with_reducible refine gd 2 rfl ?_); refine bx_ 2 48 #[.string a0_0, .int .i64 a0_1, .int .i64 a0_2, .int .i64 a0_3, .int .i64 a0_4, .int .i64 a0_5, .int .i64 a0_6, .int .i64 a0_7, .int .i64 a0_8, .int .i64 a0_9, .int .i64 a0_10] rfl rfl ?_; intro gb572 hg w6 BK572 hb; have GE572 := bz HB hg; replace HB := bs HB hb; clear hb hg) | ((with_reducible refine gd 3 rfl ?_); refine bx_ 3 23 #[.int .i64 a1_0, .int .i64 a1_1] rfl rfl ?_; intro gb573 hg w7 BK573 hb; have GE573 := bz HB hg; have ⟨NB572_573, NB573_572⟩ := nb BK572 hg; replace BK572 := bb BK572 hb; replace HB := bs HB hb; clear hb hg) | ((with_reducible refine gd 4 rfl ?_); refine bx_ 4 23 #[.int .i64 0, .int .i64 0] rfl rfl ?_; intro gb574 hg w8 BK574 hb; have GE574 := bz HB hg; have ⟨NB572_574, NB574_572⟩ := nb BK572 hg; have ⟨NB573_574, NB574_573⟩ := nb BK573 hg; replace BK572 := bb BK572 hb; replace BK573 := bb BK573 hb; replace HB := bs HB hb; clear hb hg; have hnb9 := nn NB572_573; have hnb10 := nn NB572_574; have hcz11 := X.k11 BK572; have hnb12 := nn NB573_574; have hcz13 := X.k2 BK573) | ((with_reducible refine gc 19 rfl ?_); refine gm_ (some 11) rfl rfl Tryz.func19 (carrefourref09_Volume.calls _ _ _ _ _ _ _ _ _ _ _ _ _ _ _ _ _ _ A3.out) ag ?_; intro w14 hb; replace BK572 := bb BK572 hb; replace BK573 := bb BK573 hb; replace BK574 := bb BK574 hb; replace HB := bs HB hb; (try clear hb)) | ((with_reducible refine gd 6 rfl ?_); refine bx_ 6 23 #[.int .i64 0, .int .i64 0] rfl rfl ?_; intro gb578 hg w15 BK578 hb; have GE578 := bz HB hg; have ⟨NB572_578, NB578_572⟩ := nb BK572 hg; have ⟨NB573_578, NB578_573⟩ := nb BK573 hg; have ⟨NB574_578, NB578_574⟩ := nb BK574 hg; replace BK572 := bb BK572 hb; replace BK574 := bb BK574 hb; replace HB := bs HB hb; clear hb hg; have hnb16 := nn NB578_572; have hnb17 := nn NB578_573; have hnb18 := nn NB578_574; have hcz19 := X.k2 BK578; have hcz20 := X.k11 BK572) | ((with_reducible refine gc 20 rfl ?_); refine gm_ (some 22) rfl rfl Tryz.func20 (carrefourref02_Div.calls _ _ _ _ _ _ _ _ _ A5.out) ag ?_; intro w21 hb; replace BK574 := bb BK574 hb; replace BK578 := bp_ #[.int .i64 t575, .int .i64 t576] BK578 hb; replace HB := bs HB hb; (try clear hb); have hcz22 := X.k2 BK574))
  refine bodyPost_ret (results_ct rfl _ _ gb574 23 #[.int .i64 t579, .int .i64 t580] (0, 0) _ rfl (br_ BK574) Tryz.underlying23 rfl (by kernel_rfl)) rfl ?_
  exact ⟨ae, bf HB⟩
 ·rw [if_neg c4] at H
  have c4b0 : (t577 == 0) = false := beq_eq_false_iff_ne.mpr c4
  have c4b1 : (t577 != 0) = true := bne_iff_ne.mpr c4
  simp only [Option.some.injEq, Prod.mk.injEq] at H
  obtain ⟨rfl, rfl, rfl⟩ := H
  go_enter Tryz.func11, Tryz.ntmps11
  go_wp2_with (first | ((with_reducible refine gd 2 rfl ?_); refine bx_ 2 48 #[.string a0_0, .int .i64 a0_1, .int .i64 a0_2, .int .i64 a0_3, .int .i64 a0_4, .int .i64 a0_5, .int .i64 a0_6, .int .i64 a0_7, .int .i64 a0_8, .int .i64 a0_9, .int .i64 a0_10] rfl rfl ?_; intro gb572 hg w23 BK572 hb; have GE572 := bz HB hg; replace HB := bs HB hb; clear hb hg) | ((with_reducible refine gd 3 rfl ?_); refine bx_ 3 23 #[.int .i64 a1_0, .int .i64 a1_1] rfl rfl ?_; intro gb573 hg w24 BK573 hb; have GE573 := bz HB hg; have ⟨NB572_573, NB573_572⟩ := nb BK572 hg; replace BK572 := bb BK572 hb; replace HB := bs HB hb; clear hb hg) | ((with_reducible refine gd 4 rfl ?_); refine bx_ 4 23 #[.int .i64 0, .int .i64 0] rfl rfl ?_; intro gb574 hg w25 BK574 hb; have GE574 := bz HB hg; have ⟨NB572_574, NB574_572⟩ := nb BK572 hg; have ⟨NB573_574, NB574_573⟩ := nb BK573 hg; replace BK572 := bb BK572 hb; replace BK573 := bb BK573 hb; replace HB := bs HB hb; clear hb hg; have hnb26 := nn NB572_573; have hnb27 := nn NB572_574; have hcz28 := X.k11 BK572; have hnb29 := nn NB573_574; have hcz30 := X.k2 BK573) | ((with_reducible refine gc 19 rfl ?_); refine gm_ (some 11) rfl rfl Tryz.func19 (carrefourref09_Volume.calls _ _ _ _ _ _ _ _ _ _ _ _ _ _ _ _ _ _ A3.out) ag ?_; intro w31 hb; replace BK572 := bb BK572 hb; replace BK573 := bb BK573 hb; replace BK574 := bb BK574 hb; replace HB := bs HB hb; (try clear hb)) | ((with_reducible refine gd 6 rfl ?_); refine bx_ 6 23 #[.int .i64 0, .int .i64 0] rfl rfl ?_; intro gb578 hg w32 BK578 hb; have GE578 := bz HB hg; have ⟨NB572_578, NB578_572⟩ := nb BK572 hg; have ⟨NB573_578, NB578_573⟩ := nb BK573 hg; have ⟨NB574_578, NB578_574⟩ := nb BK574 hg; replace BK574 := bb BK574 hb; replace HB := bs HB hb; clear hb hg; have hnb33 := nn NB578_572; have hnb34 := nn NB578_573; have hnb35 := nn NB578_574; have hcz36 := X.k2 BK578; have hcz37 := X.k2 BK574))
  refine bodyPost_ret (results_ct rfl _ _ gb574 23 #[.int .i64 0, .int .i64 0] (0, 0) _ rfl (br_ BK574) Tryz.underlying23 rfl (by kernel_rfl)) rfl ?_
  exact ⟨ae, bf HB⟩

end Go.Proofs.YtfhokgkpcphmlaaGreatDoor.X
