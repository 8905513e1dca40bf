/- Walks: each '.calls' says that the Go function comes to what its Lean function tells. Conditions: as each theorem's head says. -/
import Derived.Test.YtjgnaccamakpdaaDoorXD
import Derived.Test.YtjgnaccamakpdaaDoorX0
import Derived.Test.YtjgnaccamakpdaaDoorX3
import Derived.Test.YtjgnaccamakpdaaDoorX8
import Derived.Test.YtjgnaccamakpdaaDoorX11
import Derived.Test.YtjgnaccamakpdaaDoorX12
import Derived.Test.YtjgnaccamakpdaaDoorX14
import Derived.Test.YtjgnaccamakpdaaDoorX19
import Derived.Test.YtjgnaccamakpdaaDoorX22
import Derived.Test.YtjgnaccamakpdaaDoorX26
import Derived.Test.YtjgnaccamakpdaaDoorX27
namespace Go.Proofs.YtjgnaccamakpdaaDoor.X
open Go.RowKit Go.Proofs.YtjgnaccamakpdaaDoorW.PrintWords Go.Proofs.YtjgnaccamakpdaaDoorW.PrintLast Go.Proofs.YtjgnaccamakpdaaDoorW.PrintMore
attribute [local go_sem] max2_int min2_int max_two min_two max_three min_three max_four min_four   -- for this text's walks alone
set_option linter.unusedVariables false
set_option maxHeartbeats 8000000
set_option maxRecDepth 100000
set_option linter.unusedSimpArgs false

attribute [local go_sem high] eqA85
/-! ### carrefourref02_Div: function 24 -/
def carrefourref02_Div.T7 : Bool × List (List Nat × List Nat) := (true, [([], []), ([0], [0]), ([1], [1]), ([], []), ([3], [3]), ([4], [4]), ([2, 5, 2], [2, 5]), ([6, 6], [6]), ([7, 7, 0, 1, 2, 3, 4, 5, 6, 7], [7])])
def carrefourref02_Div.B7 : List Nat := [0, 1, 3, 0, 8, 24, 63, 127, 255]
theorem carrefourref02_Div.tab7 : rtab .any (opsOf Tryd.f24 7) = carrefourref02_Div.T7 := by kernel_rfl
theorem carrefourref02_Div.bits7 : waitsOk carrefourref02_Div.T7.2 carrefourref02_Div.B7 = true := by kernel_rfl
def carrefourref02_Div.T8 : Bool × List (List Nat × List Nat) := (true, [([], []), ([0], [0]), ([1], [1]), ([], []), ([3], [3]), ([4], [4]), ([2, 5, 5], [2, 5]), ([6, 6], [6]), ([7, 7, 0, 1, 2, 3, 4, 5, 6, 7], [7])])
def carrefourref02_Div.B8 : List Nat := [0, 1, 3, 0, 8, 24, 63, 127, 255]
theorem carrefourref02_Div.tab8 : rtab .any (opsOf Tryd.f24 8) = carrefourref02_Div.T8 := by kernel_rfl
theorem carrefourref02_Div.bits8 : waitsOk carrefourref02_Div.T8.2 carrefourref02_Div.B8 = true := by kernel_rfl
theorem carrefourref02_Div.calls (k : Nat) (a0_0 : Int) (a0_1 : Int) (a1_0 : Int) (a1_1 : Int) (r1 : Int) (r2 : Int) (r3 : Int) (w : World) (h : carrefourref02_Div.f k a0_0 a0_1 a1_0 a1_1 = some (r1, r2, r3)) :
    Calls Tryd.prog 24 #[.agg #[.int .i64 a0_0, .int .i64 a0_1], .agg #[.int .i64 a1_0, .int .i64 a1_1]] w fun e w' => e = .returned (.tuple #[.agg #[.int .i64 r1, .int .i64 r2], .int .i64 r3]) ∧ Below w.heap.size w w' := by
  have hu23 := Tryd.underlying23
  have HB := Aside0.mk (Below.refl w.heap.size w)
  have H : ((carrefourref02_Norm.f k a0_0 a0_1).bind fun bt834 => ((carrefourref02_Norm.f k a1_0 a1_1).bind fun bt836 => (if bt836.1 = 0 then (some (0, 0, 3)) else ((carrefourref02_few.f bt834.1 bt834.2 bt836.1 bt836.2).bind fun t838 => (if t838 = true then ((carrefourref02_Of.f k (wrap64 (bt834.1 * bt836.2)) (wrap64 (bt834.2 * bt836.1))).bind fun bt839 => (some (bt839.1, bt839.2.1, bt839.2.2))) else ((carrefourref01_Size.f bt834.1).bind fun t842 => ((carrefourref01_Times.f k t842 (IntKind.u64.wrap (bt836.2))).bind fun t843 => ((carrefourref02_trim.f k t843).bind fun t846 => ((carrefourref01_Size.f bt836.1).bind fun t849 => ((carrefourref01_Times.f k (IntKind.u64.wrap (bt834.2)) t849).bind fun t850 => ((carrefourref02_trim.f k t850).bind fun t853 => ((carrefourref02_lowest.f k t846 t853 ((decide (bt834.1 < 0)) != (decide (bt836.1 < 0)))).bind fun bt856 => (some (bt856.1, bt856.2.1, bt856.2.2)))))))))))))) = some (r1, r2, r3) := h
  clear h
  replace H := bi_ H; obtain ⟨⟨t834, t835⟩, A3, H⟩ := H
  (try dsimp only at H)
  replace H := bi_ H; obtain ⟨⟨t836, t837⟩, A4, H⟩ := H
  (try dsimp only at H)
  by_cases c5 : t836 = 0
  · rw [if_pos c5] at H
    have c5b0 : (t836 == 0) = true := beq_iff_eq.mpr c5
    have c5b1 : (t836 != 0) = false := bne_eq_false_iff_eq.mpr c5
    clear c5
    simp only [Option.some.injEq, Prod.mk.injEq] at H
    obtain ⟨rfl, rfl, rfl⟩ := H
    go_enter Tryd.func24, Tryd.ntmps24
    go_wp2_with (first | ((with_reducible refine gd 2 rfl ?_); refine bx_ 2 23 #[.int .i64 a0_0, .int .i64 a0_1] rfl rfl ?_; intro gb831 hg w6 BK831 hb; have GE831 := bz HB hg; replace HB := bs HB hb; clear hb hg) | ((with_reducible refine gd 3 rfl ?_); refine bx_ 3 23 #[.int .i64 a1_0, .int .i64 a1_1] rfl rfl ?_; intro gb832 hg w7 BK832 hb; have GE832 := bz HB hg; have ⟨NB831_832, NB832_831⟩ := nb BK831 hg; replace BK831 := bb BK831 hb; replace HB := bs HB hb; clear hb hg) | ((with_reducible refine gd 4 rfl ?_); refine bx_ 4 23 #[.int .i64 0, .int .i64 0] rfl rfl ?_; intro gb833 hg w8 BK833 hb; have GE833 := bz HB hg; have ⟨NB831_833, NB833_831⟩ := nb BK831 hg; have ⟨NB832_833, NB833_832⟩ := nb BK832 hg; replace BK831 := bb BK831 hb; replace BK832 := bb BK832 hb; replace HB := bs HB hb; clear hb hg; have hnb9 := nn NB831_832; have hnb10 := nn NB831_833; have hcz11 := k2 BK831) | ((with_reducible refine gc 39 rfl ?_); refine gm_ (some 9) rfl rfl Tryd.func39 (carrefourref02_Norm.calls _ _ _ _ _ _ A3.out) ag ?_; intro w12 hb; replace BK831 := bb BK831 hb; replace BK832 := bb BK832 hb; replace BK833 := bb BK833 hb; replace HB := bs HB hb; (try clear hb); have hcz13 := k2 BK831; have hnb14 := nn NB832_833; have hcz15 := k2 BK832) | ((with_reducible refine gc 39 rfl ?_); refine gm_ (some 11) rfl rfl Tryd.func39 (carrefourref02_Norm.calls _ _ _ _ _ _ A4.out) ag ?_; intro w16 hb; replace BK831 := bp_ #[.int .i64 t834, .int .i64 t835] BK831 hb; replace BK832 := bb BK832 hb; replace BK833 := bb BK833 hb; replace HB := bs HB hb; (try clear hb); have hcz17 := k2 BK832; have hcz18 := k2 BK833))
    refine bodyPost_ret (results_ct rfl _ _ gb833 23 #[.int .i64 0, .int .i64 0] (0, 0) _ rfl (br_ BK833) Tryd.underlying23 rfl (by kernel_rfl)) rfl ?_
    exact ⟨ae, bf HB⟩
  · rw [if_neg c5] at H
    have c5b0 : (t836 == 0) = false := beq_eq_false_iff_ne.mpr c5
    have c5b1 : (t836 != 0) = true := bne_iff_ne.mpr c5
    replace H := bi_ H; obtain ⟨t838, A19, H⟩ := H
    (try dsimp only at H)
    by_cases c20 : t838 = true
    · subst c20
      have H1 : ((carrefourref02_Of.f k (wrap64 (t834 * t837)) (wrap64 (t835 * t836))).bind fun bt839 => (some (bt839.1, bt839.2.1, bt839.2.2))) = some (r1, r2, r3) := by rw [if_pos rfl] at H; exact H
      clear H
      have H := H1
      clear H1
      replace H := bi_ H; obtain ⟨⟨t839, t840, t841⟩, A21, H⟩ := H
      (try dsimp only at H)
      simp only [Option.some.injEq, Prod.mk.injEq] at H
      obtain ⟨rfl, rfl, rfl⟩ := H
      go_enter Tryd.func24, Tryd.ntmps24
      go_wp2_with (first | ((with_reducible refine gd 2 rfl ?_); refine bx_ 2 23 #[.int .i64 a0_0, .int .i64 a0_1] rfl rfl ?_; intro gb831 hg w22 BK831 hb; have GE831 := bz HB hg; replace HB := bs HB hb; clear hb hg) | ((with_reducible refine gd 3 rfl ?_); refine bx_ 3 23 #[.int .i64 a1_0, .int .i64 a1_1] rfl rfl ?_; intro gb832 hg w23 BK832 hb; have GE832 := bz HB hg; have ⟨NB831_832, NB832_831⟩ := nb BK831 hg; replace BK831 := bb BK831 hb; replace HB := bs HB hb; clear hb hg) | ((with_reducible refine gd 4 rfl ?_); refine bx_ 4 23 #[.int .i64 0, .int .i64 0] rfl rfl ?_; intro gb833 hg w24 BK833 hb; have GE833 := bz HB hg; have ⟨NB831_833, NB833_831⟩ := nb BK831 hg; have ⟨NB832_833, NB833_832⟩ := nb BK832 hg; replace BK831 := bb BK831 hb; replace BK832 := bb BK832 hb; replace HB := bs HB hb; clear hb hg; have hnb25 := nn NB831_832; have hnb26 := nn NB831_833; have hcz27 := k2 BK831) | ((with_reducible refine gc 39 rfl ?_); refine gm_ (some 9) rfl rfl Tryd.func39 (carrefourref02_Norm.calls _ _ _ _ _ _ A3.out) ag ?_; intro w28 hb; replace BK831 := bb BK831 hb; replace BK832 := bb BK832 hb; replace BK833 := bb BK833 hb; replace HB := bs HB hb; (try clear hb); have hcz29 := k2 BK831; have hnb30 := nn NB832_833; have hcz31 := k2 BK832) | ((with_reducible refine gc 39 rfl ?_); refine gm_ (some 11) rfl rfl Tryd.func39 (carrefourref02_Norm.calls _ _ _ _ _ _ A4.out) ag ?_; intro w32 hb; replace BK831 := bp_ #[.int .i64 t834, .int .i64 t835] BK831 hb; replace BK832 := bb BK832 hb; replace BK833 := bb BK833 hb; replace HB := bs HB hb; (try clear hb); have hcz33 := k2 BK832; have hcz34 := k2 BK831) | ((with_reducible refine gc 40 rfl ?_); refine gm_ (some 18) rfl rfl Tryd.func40 (carrefourref02_few.calls _ _ _ _ _ _ A19.out) ag ?_; intro w35 hb; replace BK831 := bb BK831 hb; replace BK832 := bp_ #[.int .i64 t836, .int .i64 t837] BK832 hb; replace BK833 := bb BK833 hb; replace HB := bs HB hb; (try clear hb); have hcz36 := k2 BK831; have hcz37 := k2 BK832) | ((with_reducible refine gc 17 rfl ?_); refine gm_ (some 29) rfl rfl Tryd.func17 (carrefourref02_Of.calls _ (wrap64 (t834 * t837)) (wrap64 (t835 * t836)) _ _ _ _ A21.out) ag ?_; intro w38 hb; replace BK833 := bb BK833 hb; replace HB := bs HB hb; (try clear hb); have hcz39 := k2 BK833))
      refine bodyPost_ret (results_ct rfl _ _ gb833 23 #[.int .i64 t839, .int .i64 t840] (0, 0) _ rfl (br_ BK833) Tryd.underlying23 rfl (by kernel_rfl)) rfl ?_
      exact ⟨ae, bf HB⟩
    · replace c20 := Bool.eq_false_iff.mpr c20
      subst c20
      have H1 : ((carrefourref01_Size.f t834).bind fun t842 => ((carrefourref01_Times.f k t842 (IntKind.u64.wrap (t837))).bind fun t843 => ((carrefourref02_trim.f k t843).bind fun t846 => ((carrefourref01_Size.f t836).bind fun t849 => ((carrefourref01_Times.f k (IntKind.u64.wrap (t835)) t849).bind fun t850 => ((carrefourref02_trim.f k t850).bind fun t853 => ((carrefourref02_lowest.f k t846 t853 ((decide (t834 < 0)) != (decide (t836 < 0)))).bind fun bt856 => (some (bt856.1, bt856.2.1, bt856.2.2))))))))) = some (r1, r2, r3) := by rw [if_neg (show ¬ (false = true) by decide)] at H; exact H
      clear H
      have H := H1
      clear H1
      replace H := bi_ H; obtain ⟨t842, A40, H⟩ := H
      (try dsimp only at H)
      replace H := bi_ H; obtain ⟨t843, A41, H⟩ := H
      (try dsimp only at H)
      replace H := bi_ H; obtain ⟨t846, A42, H⟩ := H
      (try dsimp only at H)
      replace H := bi_ H; obtain ⟨t849, A43, H⟩ := H
      (try dsimp only at H)
      replace H := bi_ H; obtain ⟨t850, A44, H⟩ := H
      (try dsimp only at H)
      replace H := bi_ H; obtain ⟨t853, A45, H⟩ := H
      (try dsimp only at H)
      replace H := bi_ H; obtain ⟨⟨t856, t857, t858⟩, A46, H⟩ := H
      (try dsimp only at H)
      simp only [Option.some.injEq, Prod.mk.injEq] at H
      obtain ⟨rfl, rfl, rfl⟩ := H
      go_enter Tryd.func24, Tryd.ntmps24
      try go_wp2_with (first | ((with_reducible refine gd 2 rfl ?_); refine bx_ 2 23 #[.int .i64 a0_0, .int .i64 a0_1] rfl rfl ?_; intro gb831 hg w47 BK831 hb; have GE831 := bz HB hg; replace HB := bs HB hb; clear hb hg) | ((with_reducible refine gd 3 rfl ?_); refine bx_ 3 23 #[.int .i64 a1_0, .int .i64 a1_1] rfl rfl ?_; intro gb832 hg w48 BK832 hb; have GE832 := bz HB hg; have ⟨NB831_832, NB832_831⟩ := nb BK831 hg; replace BK831 := bb BK831 hb; replace HB := bs HB hb; clear hb hg) | ((with_reducible refine gd 4 rfl ?_); refine bx_ 4 23 #[.int .i64 0, .int .i64 0] rfl rfl ?_; intro gb833 hg w49 BK833 hb; have GE833 := bz HB hg; have ⟨NB831_833, NB833_831⟩ := nb BK831 hg; have ⟨NB832_833, NB833_832⟩ := nb BK832 hg; replace BK831 := bb BK831 hb; replace BK832 := bb BK832 hb; replace HB := bs HB hb; clear hb hg; have hnb50 := nn NB831_832; have hnb51 := nn NB831_833; have hcz52 := k2 BK831) | ((with_reducible refine gc 39 rfl ?_); refine gm_ (some 9) rfl rfl Tryd.func39 (carrefourref02_Norm.calls _ _ _ _ _ _ A3.out) ag ?_; intro w53 hb; replace BK831 := bb BK831 hb; replace BK832 := bb BK832 hb; replace BK833 := bb BK833 hb; replace HB := bs HB hb; (try clear hb); have hcz54 := k2 BK831; have hnb55 := nn NB832_833; have hcz56 := k2 BK832) | ((with_reducible refine gc 39 rfl ?_); refine gm_ (some 11) rfl rfl Tryd.func39 (carrefourref02_Norm.calls _ _ _ _ _ _ A4.out) ag ?_; intro w57 hb; replace BK831 := bp_ #[.int .i64 t834, .int .i64 t835] BK831 hb; replace BK832 := bb BK832 hb; replace BK833 := bb BK833 hb; replace HB := bs HB hb; (try clear hb); have hcz58 := k2 BK832; have hcz59 := k2 BK831) | ((with_reducible refine gc 40 rfl ?_); refine gm_ (some 18) rfl rfl Tryd.func40 (carrefourref02_few.calls _ _ _ _ _ _ A19.out) ag ?_; intro w60 hb; replace BK831 := bb BK831 hb; replace BK832 := bp_ #[.int .i64 t836, .int .i64 t837] BK832 hb; replace BK833 := bb BK833 hb; replace HB := bs HB hb; (try clear hb)))
      replace BK831 := Aside0.mk (blk_drew BK831.out)
      replace BK832 := Aside0.mk (blk_drew BK832.out)
      replace BK833 := Aside0.mk (blk_drew BK833.out)
      replace HB := Aside0.mk (below_drew1 HB.out)
      refine start_ (n := 9) (S := fun w' => c_ w' gb831 0 (.int .i64 t834) ∧ c_ w' gb831 1 (.int .i64 t835) ∧ c_ w' gb832 0 (.int .i64 t836) ∧ c_ w' gb832 1 (.int .i64 t837)) (ds := []) (m_ 9 0) (by kernel_rfl) rfl rfl ⟨ct BK831 0, ct BK831 1, ct BK832 0, ct BK832 1⟩ (fun hHeld => ?_); refine with_tabW carrefourref02_Div.tab7 carrefourref02_Div.bits7 (fun HT_ HW_ => ?_)
      generalize w60.drew = w61 at BK831 BK832 BK833 HB hHeld ⊢
      refine pu_ 0 (some 32) (m_ 9 1) rfl rfl (ao HT_) ?_
      refine pu_ 3 (some 35) (m_ 9 9) rfl rfl (ao HT_) ?_
      refine tk_ 1 (some 33) (m_ 9 11) rfl rfl (tw HT_ HW_) hHeld ?_
      refine tk_ 4 (some 36) (m_ 9 27) rfl rfl (tw HT_ HW_) hHeld ?_
      refine pu_ 5 (some 37) (m_ 9 59) rfl rfl (ao HT_) ?_
      refine o1_ 2 (some 34) (m_ 9 63) rfl rfl (oo HT_) (fun K hK => ?_)
      refine gs_ rfl Tryd.func43 (carrefourref01_Size.calls _ _ _ A40.out) ag ?_
      rintro w' ⟨nd, rfl⟩
      refine hK.out _ _ ⟨ct BK831 0, ct BK831 1, ct BK832 0, ct BK832 1⟩ (fun hHeld => ?_)
      clear hK K
      refine nr_ (some 34) ?_
      refine o1_ 6 (some 38) (m_ 9 127) rfl rfl (oo HT_) (fun K hK => ?_)
      refine goes_ Tryd.func42 (by kernel_rfl) rfl #[.int .u64 t842, .int .u64 (IntKind.u64.wrap (t837))] (by rfl) rfl rfl ag ?_
      with_reducible refine (carrefourref01_Times.calls _ _ (IntKind.u64.wrap (t837)) _ _ A41.out).mono ?_
      rintro e w62 ⟨v844, rfl, ho0, hb⟩
      refine ⟨_, rfl, ?_⟩
      have HO845 := Aside0.mk (Kd.R_lower ho0 (below_size (bf HB)))
      replace BK831 := bb BK831 hb
      replace BK832 := bb BK832 hb
      replace BK833 := bb BK833 hb
      replace HB := bs HB hb
      (try clear hb); (try clear ho0)
      obtain ⟨Ao63, co63, eo63⟩ := Kd.R_slice HO845.out
      (first | subst eo63 | (injection eo63 with f1_ f2_ f3_; have f4_ := f1_.symm; have f5_ := f3_.symm; clear f1_ f2_ f3_; subst f4_; subst f5_))
      refine hK.out _ _ ⟨ct BK831 0, ct BK831 1, ct BK832 0, ct BK832 1⟩ (fun hHeld => ?_)
      clear hK K
      refine nr_ (some 38) ?_
      refine o1_ 7 (some 39) (m_ 9 255) rfl rfl (oo HT_) (fun K hK => ?_)
      refine goes_ Tryd.func41 (by kernel_rfl) rfl #[.slice Ao63 t843.length co63] (by rfl) rfl rfl ag ?_
      with_reducible refine (carrefourref02_trim.calls _ _ _ _ _ _ ?side1 ?side2 A42.out).mono ?_
      (case side1 => exact rc HO845)
      (case side2 => exact (Kd.R_reads' HO845.out).2.1)
      rintro e w64 ⟨v847, rfl, ho0, hb⟩
      refine ⟨_, rfl, ?_⟩
      have HO848 := Aside0.mk (Kd.R_lower (Kd.R_new' ho0 (rl HO845)) (below_size (bf HB)))
      replace HO845 := re_ HO845 (Kd.R_base ho0) hb
      replace BK831 := bb BK831 hb
      replace BK832 := bb BK832 hb
      replace BK833 := bb BK833 hb
      replace HB := bs HB hb
      (try clear hb); (try clear ho0)
      refine hK.out _ _ ⟨ct BK831 0, ct BK831 1, ct BK832 0, ct BK832 1⟩ (fun hHeld => ?_)
      clear hK K
      refine nr_ (some 39) ?_
      refine pu_ 8 (some 6) (m_ 9 511) rfl rfl (ao HT_) ?_
      refine done_ (done_of HT_.out (by kernel_rfl)) ?_
      try go_wp2
      replace HO845 := Aside0.mk (Kd.R_drew HO845.out)
      replace HO848 := Aside0.mk (Kd.R_drew HO848.out)
      replace BK831 := Aside0.mk (blk_drew BK831.out)
      replace BK832 := Aside0.mk (blk_drew BK832.out)
      replace BK833 := Aside0.mk (blk_drew BK833.out)
      replace HB := Aside0.mk (below_drew1 HB.out)
      refine start_ (n := 9) (S := fun w' => c_ w' gb831 0 (.int .i64 t834) ∧ c_ w' gb831 1 (.int .i64 t835) ∧ c_ w' gb832 0 (.int .i64 t836) ∧ c_ w' gb832 1 (.int .i64 t837)) (ds := []) (m_ 9 0) (by kernel_rfl) rfl rfl ⟨ct BK831 0, ct BK831 1, ct BK832 0, ct BK832 1⟩ (fun hHeld => ?_); refine with_tabW carrefourref02_Div.tab8 carrefourref02_Div.bits8 (fun HT_ HW_ => ?_)
      generalize w64.drew = w65 at HO845 HO848 BK831 BK832 BK833 HB hHeld ⊢
      refine pu_ 0 (some 40) (m_ 9 1) rfl rfl (ao HT_) ?_
      refine pu_ 3 (some 43) (m_ 9 9) rfl rfl (ao HT_) ?_
      refine tk_ 1 (some 41) (m_ 9 11) rfl rfl (tw HT_ HW_) hHeld ?_
      refine pu_ 2 (some 42) (m_ 9 15) rfl rfl (ao HT_) ?_
      refine tk_ 4 (some 44) (m_ 9 31) rfl rfl (tw HT_ HW_) hHeld ?_
      refine o1_ 5 (some 45) (m_ 9 63) rfl rfl (oo HT_) (fun K hK => ?_)
      refine gs_ rfl Tryd.func43 (carrefourref01_Size.calls _ _ _ A43.out) ag ?_
      rintro w' ⟨nd, rfl⟩
      refine hK.out _ _ ⟨ct BK831 0, ct BK831 1, ct BK832 0, ct BK832 1⟩ (fun hHeld => ?_)
      clear hK K
      refine nr_ (some 45) ?_
      refine o1_ 6 (some 46) (m_ 9 127) rfl rfl (oo HT_) (fun K hK => ?_)
      refine goes_ Tryd.func42 (by kernel_rfl) rfl #[.int .u64 (IntKind.u64.wrap (t835)), .int .u64 t849] (by rfl) rfl rfl ag ?_
      with_reducible refine (carrefourref01_Times.calls _ (IntKind.u64.wrap (t835)) _ _ _ A44.out).mono ?_
      rintro e w66 ⟨v851, rfl, ho0, hb⟩
      refine ⟨_, rfl, ?_⟩
      have HO852 := Aside0.mk (Kd.R_lower (Kd.R_new' (Kd.R_new' ho0 (rl HO845)) (rl HO848)) (below_size (bf HB)))
      replace HO845 := re_ HO845 (Kd.R_base ho0) hb
      replace HO848 := re_ HO848 (Kd.R_base ho0) hb
      replace BK831 := bb BK831 hb
      replace BK832 := bb BK832 hb
      replace BK833 := bb BK833 hb
      replace HB := bs HB hb
      (try clear hb); (try clear ho0)
      obtain ⟨Ao67, co67, eo67⟩ := Kd.R_slice HO852.out
      (first | subst eo67 | (injection eo67 with f1_ f2_ f3_; have f4_ := f1_.symm; have f5_ := f3_.symm; clear f1_ f2_ f3_; subst f4_; subst f5_))
      refine hK.out _ _ ⟨ct BK831 0, ct BK831 1, ct BK832 0, ct BK832 1⟩ (fun hHeld => ?_)
      clear hK K
      refine nr_ (some 46) ?_
      refine o1_ 7 (some 47) (m_ 9 255) rfl rfl (oo HT_) (fun K hK => ?_)
      refine goes_ Tryd.func41 (by kernel_rfl) rfl #[.slice Ao67 t850.length co67] (by rfl) rfl rfl ag ?_
      with_reducible refine (carrefourref02_trim.calls _ _ _ _ _ _ ?side1 ?side2 A45.out).mono ?_
      (case side1 => exact rc HO852)
      (case side2 => exact (Kd.R_reads' HO852.out).2.1)
      rintro e w68 ⟨v854, rfl, ho0, hb⟩
      refine ⟨_, rfl, ?_⟩
      have HO855 := Aside0.mk (Kd.R_lower (Kd.R_new' (Kd.R_new' (Kd.R_new' ho0 (rl HO845)) (rl HO848)) (rl HO852)) (below_size (bf HB)))
      replace HO845 := re_ HO845 (Kd.R_base ho0) hb
      replace HO848 := re_ HO848 (Kd.R_base ho0) hb
      replace HO852 := re_ HO852 (Kd.R_base ho0) hb
      replace BK831 := bb BK831 hb
      replace BK832 := bb BK832 hb
      replace BK833 := bb BK833 hb
      replace HB := bs HB hb
      (try clear hb); (try clear ho0)
      refine hK.out _ _ ⟨ct BK831 0, ct BK831 1, ct BK832 0, ct BK832 1⟩ (fun hHeld => ?_)
      clear hK K
      refine nr_ (some 47) ?_
      refine pu_ 8 (some 7) (m_ 9 511) rfl rfl (ao HT_) ?_
      refine done_ (done_of HT_.out (by kernel_rfl)) ?_
      have hcz69 := k2 BK831
      have hcz70 := k2 BK832
      obtain ⟨Ao71, co71, eo71⟩ := Kd.R_slice HO848.out
      subst eo71
      obtain ⟨Ao72, co72, eo72⟩ := Kd.R_slice HO855.out
      subst eo72
      try go_wp2_with (first | ((with_reducible refine gc 44 rfl ?_); refine gm_ (some 57) rfl rfl Tryd.func44 (carrefourref02_lowest.calls _ (fun k_ => some k_ = (.slice Ao71 t846.length co71 : Value).ownBlock) _ _ _ (fun k_ => some k_ = (.slice Ao72 t853.length co72 : Value).ownBlock) _ _ _ ((decide (t834 < 0)) != (decide (t836 < 0))) _ _ _ _ ?side1 ?side2 A46.out) ag ?_; (case side1 => exact Kd.R_V (Kd.R_tight rfl (Kd.R_types (Kd.R_types (Kd.R_types (HO848.out) BK831.out (by decide)) BK832.out (by decide)) BK833.out (by decide)))); (case side2 => exact Kd.R_V (Kd.R_tight rfl (Kd.R_types (Kd.R_types (Kd.R_types (HO855.out) BK831.out (by decide)) BK832.out (by decide)) BK833.out (by decide)))); intro w73 hb; replace HO845 := rb HO845 hb; replace HO848 := rb HO848 hb; replace HO852 := rb HO852 hb; replace HO855 := rb HO855 hb; replace BK833 := bb BK833 hb; replace HB := bs HB hb; (try clear hb); have hcz74 := k2 BK833))
      refine bodyPost_ret (results_ct rfl _ _ gb833 23 #[.int .i64 t856, .int .i64 t857] (0, 0) _ rfl (br_ BK833) Tryd.underlying23 rfl (by kernel_rfl)) rfl ?_
      exact ⟨ae, bf HB⟩

/-! ### carrefourlaw02_FracProducts: function 6 -/
theorem carrefourlaw02_FracProducts.calls (k : Nat) (a0_0 : Int) (a0_1 : Int) (a1_0 : Int) (a1_1 : Int) (r : Bool) (w : World) (h : carrefourlaw02_FracProducts.f k a0_0 a0_1 a1_0 a1_1 = some r) (hT : TabOK w) :
    Calls Tryd.prog 6 #[.agg #[.int .i64 a0_0, .int .i64 a0_1], .agg #[.int .i64 a1_0, .int .i64 a1_1]] w fun e w' => e = .returned (.bool r) ∧ Below w.heap.size w w' := by
  have GT := Aside0.mk hT
  clear hT
  have hu23 := Tryd.underlying23
  have HB := Aside0.mk (Below.refl w.heap.size w)
  have H : ((frac_Mul.f k a0_0 a0_1 a1_0 a1_1).bind fun bt861 => ((carrefourref02_Mul.f k a0_0 a0_1 a1_0 a1_1).bind fun bt865 => ((frac_Div.f k a0_0 a0_1 a1_0 a1_1).bind fun bt869 => ((carrefourref02_Div.f k a0_0 a0_1 a1_0 a1_1).bind fun bt873 => ((carrefourlaw02_same.f bt861.1 bt861.2.1 bt861.2.2 bt865.1 bt865.2.1 bt865.2.2).bind fun t877 => (if t877 = true then ((carrefourlaw02_same.f bt869.1 bt869.2.1 bt869.2.2 bt873.1 bt873.2.1 bt873.2.2).bind fun t878 => (if t878 = true then ((carrefourlaw02_awake.f k).bind fun t879 => (some t879)) else (some false))) else (some false))))))) = some r := h
  clear h
  replace H := bi_ H; obtain ⟨⟨t861, t862, t863⟩, A3, H⟩ := H
  (try dsimp only at H)
  replace H := bi_ H; obtain ⟨⟨t865, t866, t867⟩, A4, H⟩ := H
  (try dsimp only at H)
  replace H := bi_ H; obtain ⟨⟨t869, t870, t871⟩, A5, H⟩ := H
  (try dsimp only at H)
  replace H := bi_ H; obtain ⟨⟨t873, t874, t875⟩, A6, H⟩ := H
  (try dsimp only at H)
  replace H := bi_ H; obtain ⟨t877, A7, H⟩ := H
  (try dsimp only at H)
  by_cases c8 : t877 = true
  · subst c8
    have H1 : ((carrefourlaw02_same.f t869 t870 t871 t873 t874 t875).bind fun t878 => (if t878 = true then ((carrefourlaw02_awake.f k).bind fun t879 => (some t879)) else (some false))) = some r := by rw [if_pos rfl] at H; exact H
    clear H
    have H := H1
    clear H1
    replace H := bi_ H; obtain ⟨t878, A9, H⟩ := H
    (try dsimp only at H)
    by_cases c10 : t878 = true
    · subst c10
      have H1 : ((carrefourlaw02_awake.f k).bind fun t879 => (some t879)) = some r := by rw [if_pos rfl] at H; exact H
      clear H
      have H := H1
      clear H1
      replace H := bi_ H; obtain ⟨t879, A11, H⟩ := H
      (try dsimp only at H)
      obtain rfl := Option.some.inj H
      go_enter Tryd.func6, Tryd.ntmps6
      go_wp2_with (first | ((with_reducible refine gd 2 rfl ?_); refine bx_ 2 23 #[.int .i64 a0_0, .int .i64 a0_1] rfl rfl ?_; intro gb859 hg w12 BK859 hb; have GE859 := bz HB hg; replace HB := bs HB hb; clear hb hg) | ((with_reducible refine gd 3 rfl ?_); refine bx_ 3 23 #[.int .i64 a1_0, .int .i64 a1_1] rfl rfl ?_; intro gb860 hg w13 BK860 hb; have GE860 := bz HB hg; have ⟨NB859_860, NB860_859⟩ := nb BK859 hg; replace BK859 := bb BK859 hb; replace HB := bs HB hb; clear hb hg; have hnb14 := nn NB859_860; have hcz15 := k2 BK859; have hcz16 := k2 BK860) | ((with_reducible refine gc 21 rfl ?_); refine gm_ (some 16) rfl rfl Tryd.func21 (frac_Mul.calls _ _ _ _ _ _ _ _ _ A3.out (tt GT)) ag ?_; intro w17 hb; replace BK859 := bb BK859 hb; replace BK860 := bb BK860 hb; replace HB := bs HB hb; (try clear hb)) | ((with_reducible refine gd 5 rfl ?_); refine bx_ 5 23 #[.int .i64 0, .int .i64 0] rfl rfl ?_; intro gb864 hg w18 BK864 hb; have GE864 := bz HB hg; have ⟨NB859_864, NB864_859⟩ := nb BK859 hg; have ⟨NB860_864, NB864_860⟩ := nb BK860 hg; replace BK859 := bb BK859 hb; replace BK860 := bb BK860 hb; replace HB := bs HB hb; clear hb hg; have hnb19 := nn NB864_859; have hnb20 := nn NB864_860; have hcz21 := k2 BK864; have hcz22 := k2 BK859; have hcz23 := k2 BK860) | ((with_reducible refine gc 22 rfl ?_); refine gm_ (some 22) rfl rfl Tryd.func22 (carrefourref02_Mul.calls _ _ _ _ _ _ _ _ _ A4.out) ag ?_; intro w24 hb; replace BK859 := bb BK859 hb; replace BK860 := bb BK860 hb; replace BK864 := bp_ #[.int .i64 t861, .int .i64 t862] BK864 hb; replace HB := bs HB hb; (try clear hb)) | ((with_reducible refine gd 7 rfl ?_); refine bx_ 7 23 #[.int .i64 0, .int .i64 0] rfl rfl ?_; intro gb868 hg w25 BK868 hb; have GE868 := bz HB hg; have ⟨NB859_868, NB868_859⟩ := nb BK859 hg; have ⟨NB860_868, NB868_860⟩ := nb BK860 hg; have ⟨NB864_868, NB868_864⟩ := nb BK864 hg; replace BK859 := bb BK859 hb; replace BK860 := bb BK860 hb; replace BK864 := bb BK864 hb; replace HB := bs HB hb; clear hb hg; have hnb26 := nn NB868_859; have hnb27 := nn NB868_860; have hnb28 := nn NB868_864; have hcz29 := k2 BK868; have hcz30 := k2 BK859; have hcz31 := k2 BK860) | ((with_reducible refine gc 23 rfl ?_); refine gm_ (some 28) rfl rfl Tryd.func23 (frac_Div.calls _ _ _ _ _ _ _ _ _ A5.out (tt GT)) ag ?_; intro w32 hb; replace BK859 := bb BK859 hb; replace BK860 := bb BK860 hb; replace BK864 := bb BK864 hb; replace BK868 := bp_ #[.int .i64 t865, .int .i64 t866] BK868 hb; replace HB := bs HB hb; (try clear hb)) | ((with_reducible refine gd 9 rfl ?_); refine bx_ 9 23 #[.int .i64 0, .int .i64 0] rfl rfl ?_; intro gb872 hg w33 BK872 hb; have GE872 := bz HB hg; have ⟨NB859_872, NB872_859⟩ := nb BK859 hg; have ⟨NB860_872, NB872_860⟩ := nb BK860 hg; have ⟨NB864_872, NB872_864⟩ := nb BK864 hg; have ⟨NB868_872, NB872_868⟩ := nb BK868 hg; replace BK859 := bb BK859 hb; replace BK860 := bb BK860 hb; replace BK864 := bb BK864 hb; replace BK868 := bb BK868 hb; replace HB := bs HB hb; clear hb hg; have hnb34 := nn NB872_859; have hnb35 := nn NB872_860; have hnb36 := nn NB872_864; have hnb37 := nn NB872_868; have hcz38 := k2 BK872; have hcz39 := k2 BK859; have hcz40 := k2 BK860) | ((with_reducible refine gc 24 rfl ?_); refine gm_ (some 34) rfl rfl Tryd.func24 (carrefourref02_Div.calls _ _ _ _ _ _ _ _ _ A6.out) ag ?_; intro w41 hb; replace BK859 := bb BK859 hb; replace BK860 := bb BK860 hb; replace BK864 := bb BK864 hb; replace BK868 := bb BK868 hb; replace BK872 := bp_ #[.int .i64 t869, .int .i64 t870] BK872 hb; replace HB := bs HB hb; (try clear hb)) | ((with_reducible refine gd 11 rfl ?_); refine bx_ 11 23 #[.int .i64 0, .int .i64 0] rfl rfl ?_; intro gb876 hg w42 BK876 hb; have GE876 := bz HB hg; have ⟨NB859_876, NB876_859⟩ := nb BK859 hg; have ⟨NB860_876, NB876_860⟩ := nb BK860 hg; have ⟨NB864_876, NB876_864⟩ := nb BK864 hg; have ⟨NB868_876, NB876_868⟩ := nb BK868 hg; have ⟨NB872_876, NB876_872⟩ := nb BK872 hg; replace BK864 := bb BK864 hb; replace BK868 := bb BK868 hb; replace BK872 := bb BK872 hb; replace HB := bs HB hb; clear hb hg; have hnb43 := nn NB876_859; have hnb44 := nn NB876_860; have hnb45 := nn NB876_864; have hnb46 := nn NB876_868; have hnb47 := nn NB876_872; have hcz48 := k2 BK876; have hcz49 := k2 BK864; have hcz50 := k2 BK868) | ((with_reducible refine gc 14 rfl ?_); refine gm_ (some 41) rfl rfl Tryd.func14 (carrefourlaw02_same.calls _ _ _ _ _ _ _ _ A7.out) ag ?_; intro w51 hb; replace BK872 := bb BK872 hb; replace BK876 := bp_ #[.int .i64 t873, .int .i64 t874] BK876 hb; replace HB := bs HB hb; (try clear hb); have hcz52 := k2 BK872; have hcz53 := k2 BK876) | (go_at_call 14; (with_reducible refine (carrefourlaw02_same.calls _ _ _ _ _ _ _ _ A9.out).mono ?_); rintro e w54 ⟨rfl, hb⟩; replace HB := bs HB hb; (try clear hb)) | (go_at_call 15; (with_reducible refine (carrefourlaw02_awake.calls _ _ _ A11.out (tt GT)).mono ?_); rintro e w55 ⟨rfl, hb⟩; replace HB := bs HB hb; (try clear hb)))
      go_ret
      exact ⟨ae, bf HB⟩
    · replace c10 := Bool.eq_false_iff.mpr c10
      subst c10
      have H1 : (some false) = some r := by rw [if_neg (show ¬ (false = true) by decide)] at H; exact H
      clear H
      have H := H1
      clear H1
      obtain rfl := Option.some.inj H
      go_enter Tryd.func6, Tryd.ntmps6
      go_wp2_with (first | ((with_reducible refine gd 2 rfl ?_); refine bx_ 2 23 #[.int .i64 a0_0, .int .i64 a0_1] rfl rfl ?_; intro gb859 hg w56 BK859 hb; have GE859 := bz HB hg; replace HB := bs HB hb; clear hb hg) | ((with_reducible refine gd 3 rfl ?_); refine bx_ 3 23 #[.int .i64 a1_0, .int .i64 a1_1] rfl rfl ?_; intro gb860 hg w57 BK860 hb; have GE860 := bz HB hg; have ⟨NB859_860, NB860_859⟩ := nb BK859 hg; replace BK859 := bb BK859 hb; replace HB := bs HB hb; clear hb hg; have hnb58 := nn NB859_860; have hcz59 := k2 BK859; have hcz60 := k2 BK860) | ((with_reducible refine gc 21 rfl ?_); refine gm_ (some 16) rfl rfl Tryd.func21 (frac_Mul.calls _ _ _ _ _ _ _ _ _ A3.out (tt GT)) ag ?_; intro w61 hb; replace BK859 := bb BK859 hb; replace BK860 := bb BK860 hb; replace HB := bs HB hb; (try clear hb)) | ((with_reducible refine gd 5 rfl ?_); refine bx_ 5 23 #[.int .i64 0, .int .i64 0] rfl rfl ?_; intro gb864 hg w62 BK864 hb; have GE864 := bz HB hg; have ⟨NB859_864, NB864_859⟩ := nb BK859 hg; have ⟨NB860_864, NB864_860⟩ := nb BK860 hg; replace BK859 := bb BK859 hb; replace BK860 := bb BK860 hb; replace HB := bs HB hb; clear hb hg; have hnb63 := nn NB864_859; have hnb64 := nn NB864_860; have hcz65 := k2 BK864; have hcz66 := k2 BK859; have hcz67 := k2 BK860) | ((with_reducible refine gc 22 rfl ?_); refine gm_ (some 22) rfl rfl Tryd.func22 (carrefourref02_Mul.calls _ _ _ _ _ _ _ _ _ A4.out) ag ?_; intro w68 hb; replace BK859 := bb BK859 hb; replace BK860 := bb BK860 hb; replace BK864 := bp_ #[.int .i64 t861, .int .i64 t862] BK864 hb; replace HB := bs HB hb; (try clear hb)) | ((with_reducible refine gd 7 rfl ?_); refine bx_ 7 23 #[.int .i64 0, .int .i64 0] rfl rfl ?_; intro gb868 hg w69 BK868 hb; have GE868 := bz HB hg; have ⟨NB859_868, NB868_859⟩ := nb BK859 hg; have ⟨NB860_868, NB868_860⟩ := nb BK860 hg; have ⟨NB864_868, NB868_864⟩ := nb BK864 hg; replace BK859 := bb BK859 hb; replace BK860 := bb BK860 hb; replace BK864 := bb BK864 hb; replace HB := bs HB hb; clear hb hg; have hnb70 := nn NB868_859; have hnb71 := nn NB868_860; have hnb72 := nn NB868_864; have hcz73 := k2 BK868; have hcz74 := k2 BK859; have hcz75 := k2 BK860) | ((with_reducible refine gc 23 rfl ?_); refine gm_ (some 28) rfl rfl Tryd.func23 (frac_Div.calls _ _ _ _ _ _ _ _ _ A5.out (tt GT)) ag ?_; intro w76 hb; replace BK859 := bb BK859 hb; replace BK860 := bb BK860 hb; replace BK864 := bb BK864 hb; replace BK868 := bp_ #[.int .i64 t865, .int .i64 t866] BK868 hb; replace HB := bs HB hb; (try clear hb)) | ((with_reducible refine gd 9 rfl ?_); refine bx_ 9 23 #[.int .i64 0, .int .i64 0] rfl rfl ?_; intro gb872 hg w77 BK872 hb; have GE872 := bz HB hg; have ⟨NB859_872, NB872_859⟩ := nb BK859 hg; have ⟨NB860_872, NB872_860⟩ := nb BK860 hg; have ⟨NB864_872, NB872_864⟩ := nb BK864 hg; have ⟨NB868_872, NB872_868⟩ := nb BK868 hg; replace BK859 := bb BK859 hb; replace BK860 := bb BK860 hb; replace BK864 := bb BK864 hb; replace BK868 := bb BK868 hb; replace HB := bs HB hb; clear hb hg; have hnb78 := nn NB872_859; have hnb79 := nn NB872_860; have hnb80 := nn NB872_864; have hnb81 := nn NB872_868; have hcz82 := k2 BK872; have hcz83 := k2 BK859; have hcz84 := k2 BK860) | ((with_reducible refine gc 24 rfl ?_); refine gm_ (some 34) rfl rfl Tryd.func24 (carrefourref02_Div.calls _ _ _ _ _ _ _ _ _ A6.out) ag ?_; intro w85 hb; replace BK859 := bb BK859 hb; replace BK860 := bb BK860 hb; replace BK864 := bb BK864 hb; replace BK868 := bb BK868 hb; replace BK872 := bp_ #[.int .i64 t869, .int .i64 t870] BK872 hb; replace HB := bs HB hb; (try clear hb)) | ((with_reducible refine gd 11 rfl ?_); refine bx_ 11 23 #[.int .i64 0, .int .i64 0] rfl rfl ?_; intro gb876 hg w86 BK876 hb; have GE876 := bz HB hg; have ⟨NB859_876, NB876_859⟩ := nb BK859 hg; have ⟨NB860_876, NB876_860⟩ := nb BK860 hg; have ⟨NB864_876, NB876_864⟩ := nb BK864 hg; have ⟨NB868_876, NB876_868⟩ := nb BK868 hg; have ⟨NB872_876, NB876_872⟩ := nb BK872 hg; replace BK864 := bb BK864 hb; replace BK868 := bb BK868 hb; replace BK872 := bb BK872 hb; replace HB := bs HB hb; clear hb hg; have hnb87 := nn NB876_859; have hnb88 := nn NB876_860; have hnb89 := nn NB876_864; have hnb90 := nn NB876_868; have hnb91 := nn NB876_872; have hcz92 := k2 BK876; have hcz93 := k2 BK864; have hcz94 := k2 BK868) | ((with_reducible refine gc 14 rfl ?_); refine gm_ (some 41) rfl rfl Tryd.func14 (carrefourlaw02_same.calls _ _ _ _ _ _ _ _ A7.out) ag ?_; intro w95 hb; replace BK872 := bb BK872 hb; replace BK876 := bp_ #[.int .i64 t873, .int .i64 t874] BK876 hb; replace HB := bs HB hb; (try clear hb); have hcz96 := k2 BK872; have hcz97 := k2 BK876) | (go_at_call 14; (with_reducible refine (carrefourlaw02_same.calls _ _ _ _ _ _ _ _ A9.out).mono ?_); rintro e w98 ⟨rfl, hb⟩; replace HB := bs HB hb; (try clear hb)))
      go_ret
      exact ⟨ae, bf HB⟩
  · replace c8 := Bool.eq_false_iff.mpr c8
    subst c8
    have H1 : (some false) = some r := by rw [if_neg (show ¬ (false = true) by decide)] at H; exact H
    clear H
    have H := H1
    clear H1
    obtain rfl := Option.some.inj H
    go_enter Tryd.func6, Tryd.ntmps6
    go_wp2_with (first | ((with_reducible refine gd 2 rfl ?_); refine bx_ 2 23 #[.int .i64 a0_0, .int .i64 a0_1] rfl rfl ?_; intro gb859 hg w99 BK859 hb; have GE859 := bz HB hg; replace HB := bs HB hb; clear hb hg) | ((with_reducible refine gd 3 rfl ?_); refine bx_ 3 23 #[.int .i64 a1_0, .int .i64 a1_1] rfl rfl ?_; intro gb860 hg w100 BK860 hb; have GE860 := bz HB hg; have ⟨NB859_860, NB860_859⟩ := nb BK859 hg; replace BK859 := bb BK859 hb; replace HB := bs HB hb; clear hb hg; have hnb101 := nn NB859_860; have hcz102 := k2 BK859; have hcz103 := k2 BK860) | ((with_reducible refine gc 21 rfl ?_); refine gm_ (some 16) rfl rfl Tryd.func21 (frac_Mul.calls _ _ _ _ _ _ _ _ _ A3.out (tt GT)) ag ?_; intro w104 hb; replace BK859 := bb BK859 hb; replace BK860 := bb BK860 hb; replace HB := bs HB hb; (try clear hb)) | ((with_reducible refine gd 5 rfl ?_); refine bx_ 5 23 #[.int .i64 0, .int .i64 0] rfl rfl ?_; intro gb864 hg w105 BK864 hb; have GE864 := bz HB hg; have ⟨NB859_864, NB864_859⟩ := nb BK859 hg; have ⟨NB860_864, NB864_860⟩ := nb BK860 hg; replace BK859 := bb BK859 hb; replace BK860 := bb BK860 hb; replace HB := bs HB hb; clear hb hg; have hnb106 := nn NB864_859; have hnb107 := nn NB864_860; have hcz108 := k2 BK864; have hcz109 := k2 BK859; have hcz110 := k2 BK860) | ((with_reducible refine gc 22 rfl ?_); refine gm_ (some 22) rfl rfl Tryd.func22 (carrefourref02_Mul.calls _ _ _ _ _ _ _ _ _ A4.out) ag ?_; intro w111 hb; replace BK859 := bb BK859 hb; replace BK860 := bb BK860 hb; replace BK864 := bp_ #[.int .i64 t861, .int .i64 t862] BK864 hb; replace HB := bs HB hb; (try clear hb)) | ((with_reducible refine gd 7 rfl ?_); refine bx_ 7 23 #[.int .i64 0, .int .i64 0] rfl rfl ?_; intro gb868 hg w112 BK868 hb; have GE868 := bz HB hg; have ⟨NB859_868, NB868_859⟩ := nb BK859 hg; have ⟨NB860_868, NB868_860⟩ := nb BK860 hg; have ⟨NB864_868, NB868_864⟩ := nb BK864 hg; replace BK859 := bb BK859 hb; replace BK860 := bb BK860 hb; replace BK864 := bb BK864 hb; replace HB := bs HB hb; clear hb hg; have hnb113 := nn NB868_859; have hnb114 := nn NB868_860; have hnb115 := nn NB868_864; have hcz116 := k2 BK868; have hcz117 := k2 BK859; have hcz118 := k2 BK860) | ((with_reducible refine gc 23 rfl ?_); refine gm_ (some 28) rfl rfl Tryd.func23 (frac_Div.calls _ _ _ _ _ _ _ _ _ A5.out (tt GT)) ag ?_; intro w119 hb; replace BK859 := bb BK859 hb; replace BK860 := bb BK860 hb; replace BK864 := bb BK864 hb; replace BK868 := bp_ #[.int .i64 t865, .int .i64 t866] BK868 hb; replace HB := bs HB hb; (try clear hb)) | ((with_reducible refine gd 9 rfl ?_); refine bx_ 9 23 #[.int .i64 0, .int .i64 0] rfl rfl ?_; intro gb872 hg w120 BK872 hb; have GE872 := bz HB hg; have ⟨NB859_872, NB872_859⟩ := nb BK859 hg; have ⟨NB860_872, NB872_860⟩ := nb BK860 hg; have ⟨NB864_872, NB872_864⟩ := nb BK864 hg; have ⟨NB868_872, NB872_868⟩ := nb BK868 hg; replace BK859 := bb BK859 hb; replace BK860 := bb BK860 hb; replace BK864 := bb BK864 hb; replace BK868 := bb BK868 hb; replace HB := bs HB hb; clear hb hg; have hnb121 := nn NB872_859; have hnb122 := nn NB872_860; have hnb123 := nn NB872_864; have hnb124 := nn NB872_868; have hcz125 := k2 BK872; have hcz126 := k2 BK859; have hcz127 := k2 BK860) | ((with_reducible refine gc 24 rfl ?_); refine gm_ (some 34) rfl rfl Tryd.func24 (carrefourref02_Div.calls _ _ _ _ _ _ _ _ _ A6.out) ag ?_; intro w128 hb; replace BK859 := bb BK859 hb; replace BK860 := bb BK860 hb; replace BK864 := bb BK864 hb; replace BK868 := bb BK868 hb; replace BK872 := bp_ #[.int .i64 t869, .int .i64 t870] BK872 hb; replace HB := bs HB hb; (try clear hb)) | ((with_reducible refine gd 11 rfl ?_); refine bx_ 11 23 #[.int .i64 0, .int .i64 0] rfl rfl ?_; intro gb876 hg w129 BK876 hb; have GE876 := bz HB hg; have ⟨NB859_876, NB876_859⟩ := nb BK859 hg; have ⟨NB860_876, NB876_860⟩ := nb BK860 hg; have ⟨NB864_876, NB876_864⟩ := nb BK864 hg; have ⟨NB868_876, NB876_868⟩ := nb BK868 hg; have ⟨NB872_876, NB876_872⟩ := nb BK872 hg; replace BK864 := bb BK864 hb; replace BK868 := bb BK868 hb; replace HB := bs HB hb; clear hb hg; have hnb130 := nn NB876_859; have hnb131 := nn NB876_860; have hnb132 := nn NB876_864; have hnb133 := nn NB876_868; have hnb134 := nn NB876_872; have hcz135 := k2 BK876; have hcz136 := k2 BK864; have hcz137 := k2 BK868) | ((with_reducible refine gc 14 rfl ?_); refine gm_ (some 41) rfl rfl Tryd.func14 (carrefourlaw02_same.calls _ _ _ _ _ _ _ _ A7.out) ag ?_; intro w138 hb; replace BK876 := bp_ #[.int .i64 t873, .int .i64 t874] BK876 hb; replace HB := bs HB hb; (try clear hb)))
    go_ret
    exact ⟨ae, bf HB⟩

/-! ### whole_sign: function 80 -/
theorem whole_sign.calls (k : Nat) (a0 : Int) (a1 : Int) (r : Int) (w : World) (h : whole_sign.f k a0 a1 = some r) :
    Calls Tryd.prog 80 #[.int .i64 a0, .int .i64 a1] w fun e w' => e = .returned (.int .i64 r) ∧ Drawn0 w w' := by
  have H : (if a0 = 0 then (whole_sign.j0 k a0 a1 true) else (whole_sign.j0 k a0 a1 (a1 == 0))) = some r := h
  clear h
  have HC3 := Aside0.mk H
  clear H
  go_enter Tryd.func80, Tryd.ntmps80
  go_upto_region 1 with (fail)
  go_cut [5] (fun v5 wc => ∃ (kq : Nat) (x5_2 : Bool), v5 = .bool x5_2 ∧ Aside0 (whole_sign.j0 kq a0 a1 x5_2 = some r) ∧ Aside0 (kq ≤ k) ∧ Drawn0 w wc)
  case first =>
    have H := HC3.out
    clear HC3
    by_cases c4 : a0 = 0
    · rw [if_pos c4] at H
      have c4b0 : (a0 == 0) = true := beq_iff_eq.mpr c4
      have c4b1 : (a0 != 0) = false := bne_eq_false_iff_eq.mpr c4
      clear c4
      (first | rw [c4b0] | (simp only [i64_w, i32_w]; rw [c4b0]) | skip)
      have H' := Aside0.mk H
      clear H
      go_wp2
      go_meet
      case rel => exact ⟨_, (true), (aq), H', ⟨by first | omega | exact Nat.le_refl _⟩, dr⟩
    · rw [if_neg c4] at H
      have c4b0 : (a0 == 0) = false := beq_eq_false_iff_ne.mpr c4
      have c4b1 : (a0 != 0) = true := bne_iff_ne.mpr c4
      (first | rw [c4b0] | (simp only [i64_w, i32_w]; rw [c4b0]) | skip)
      have H' := Aside0.mk H
      clear H
      go_wp2
      go_meet
      case rel => exact ⟨_, ((a1 == 0)), (aq), H', ⟨by first | omega | exact Nat.le_refl _⟩, dr⟩
  case rest =>
    clear HC3
    try clear p2
    try clear c4
    try clear c4b0
    try clear c4b1
    obtain ⟨kq, x5_2, rfl, HA, HJ2, ⟨mc2, rfl⟩⟩ := hcut
    cases kq with
    | zero => exact absurd HA.out (by simp [whole_sign.j0])
    | succ kj2 =>
      have H := HA.out
      clear HA
      simp only [whole_sign.j0] at H
      by_cases c5 : x5_2 = true
      · subst c5
        have H1 : (some 0) = some r := by rw [if_pos rfl] at H; exact H
        clear H
        have H := H1
        clear H1
        obtain rfl := Option.some.inj H
        go_wp2
        go_ret
        exact ⟨aq, dr⟩
      · replace c5 := Bool.eq_false_iff.mpr c5
        subst c5
        have H1 : (if ((decide (a0 < 0)) != (decide (a1 < 0))) = true then (some (-1)) else (some 1)) = some r := by rw [if_neg (show ¬ (false = true) by decide)] at H; exact H
        clear H
        have H := H1
        clear H1
        by_cases c6 : ((decide (a0 < 0)) != (decide (a1 < 0))) = true
        · rw [if_pos c6] at H
          have c6b0 : ((decide (a0 < 0)) != (decide (a1 < 0))) = true := c6
          (try (have c6b1 : decide ((decide (a0 < 0)) = (decide (a1 < 0))) = false := by simpa using c6))
          (try (have c6b2 : ((decide (a0 < 0)) == (decide (a1 < 0))) = false := by simpa using c6))
          (try (have c6b3 : ¬ ((decide (a0 < 0)) = (decide (a1 < 0))) := by simpa using c6))
          clear c6
          obtain rfl := Option.some.inj H
          go_wp2
          go_ret
          exact ⟨aq, dr⟩
        · rw [if_neg c6] at H
          have c6b0 : ((decide (a0 < 0)) != (decide (a1 < 0))) = false := by simpa using c6
          (try (have c6b1 : decide ((decide (a0 < 0)) = (decide (a1 < 0))) = true := by simpa using c6))
          (try (have c6b2 : ((decide (a0 < 0)) == (decide (a1 < 0))) = true := by simpa using c6))
          clear c6
          obtain rfl := Option.some.inj H
          go_wp2
          go_ret
          exact ⟨aq, dr⟩

/-! ### whole_product: function 81 -/
theorem whole_product.calls (a0 : Int) (a1 : Int) (r1 : Int) (r2 : Int) (w : World) (h : whole_product.f a0 a1 = some (r1, r2)) :
    Calls Tryd.prog 81 #[.int .i64 a0, .int .i64 a1] w fun e w' => e = .returned (.agg #[.int .u64 r1, .int .u64 r2]) ∧ Below w.heap.size w w' := by
  have hu85 := Tryd.underlying85
  have HB := Aside0.mk (Below.refl w.heap.size w)
  have H : ((whole_size.f a0).bind fun t881 => ((whole_size.f a1).bind fun t882 => ((bits_Mul64.f t881 t882).bind fun bt883 => (some (bt883.1, bt883.2))))) = some (r1, r2) := h
  clear h
  replace H := bi_ H; obtain ⟨t881, A3, H⟩ := H
  (try dsimp only at H)
  replace H := bi_ H; obtain ⟨t882, A4, H⟩ := H
  (try dsimp only at H)
  replace H := bi_ H; obtain ⟨⟨t883, t884⟩, A5, H⟩ := H
  (try dsimp only at H)
  simp only [Option.some.injEq, Prod.mk.injEq] at H
  obtain ⟨rfl, rfl⟩ := H
  go_enter Tryd.func81, Tryd.ntmps81
  go_wp2_with (first | ((with_reducible refine gd 4 rfl ?_); refine bx_ 4 85 #[.int .u64 0, .int .u64 0] rfl rfl ?_; intro gb880 hg w6 BK880 hb; have GE880 := bz HB hg; replace HB := bs HB hb; clear hb hg) | ((with_reducible refine gc 78 rfl ?_); refine gm_ (some 9) rfl rfl Tryd.func78 (whole_size.calls _ _ _ A3.out) ag ?_; rintro w' ⟨nd, rfl⟩; (try (rw [drewN_self w6]; generalize hq_ : World.drewN w6 _ = w6; have n0_ : Aside0 (w6.heap[gb880]? = some (.cells #[.int .u64 0, .int .u64 0] 85 (0, 0))) := ⟨by rw [← hq_]; exact (bx BK880)⟩; have n1_ : Aside0 (Below w.heap.size w w6) := ⟨by rw [← hq_]; exact (bf HB)⟩; clear BK880 HB hq_; have BK880 := n0_; have HB := n1_; clear n0_ n1_))) | ((with_reducible refine gc 78 rfl ?_); refine gm_ (some 11) rfl rfl Tryd.func78 (whole_size.calls _ _ _ A4.out) ag ?_; rintro w' ⟨nd, rfl⟩; (try (rw [drewN_self w6]; generalize hq_ : World.drewN w6 _ = w6; have n0_ : Aside0 (w6.heap[gb880]? = some (.cells #[.int .u64 0, .int .u64 0] 85 (0, 0))) := ⟨by rw [← hq_]; exact (bx BK880)⟩; have n1_ : Aside0 (Below w.heap.size w w6) := ⟨by rw [← hq_]; exact (bf HB)⟩; clear BK880 HB hq_; have BK880 := n0_; have HB := n1_; clear n0_ n1_))) | ((with_reducible refine gc 95 rfl ?_); refine gm_ (some 12) rfl rfl Tryd.func95 (bits_Mul64.calls _ _ _ _ _ A5.out) ag ?_; rintro w' ⟨nd, rfl⟩; (try (rw [drewN_self w6]; generalize hq_ : World.drewN w6 _ = w6; have n0_ : Aside0 (w6.heap[gb880]? = some (.cells #[.int .u64 0, .int .u64 0] 85 (0, 0))) := ⟨by rw [← hq_]; exact (bx BK880)⟩; have n1_ : Aside0 (Below w.heap.size w w6) := ⟨by rw [← hq_]; exact (bf HB)⟩; clear BK880 HB hq_; have BK880 := n0_; have HB := n1_; clear n0_ n1_)); have hcz7 := k2 BK880))
  refine bodyPost_ret (results_cell_row rfl _ _ gb880 85 #[.int .u64 t883, .int .u64 t884] (0, 0) _ rfl (br_ BK880) Tryd.underlying85 rfl (by kernel_rfl)) rfl ?_
  exact ⟨ae, bf HB⟩

/-! ### whole_double_less: function 82 -/
theorem whole_double_less.calls (a0_0 : Int) (a0_1 : Int) (a1_0 : Int) (a1_1 : Int) (r : Bool) (w : World) (h : whole_double_less.f a0_0 a0_1 a1_0 a1_1 = some r) :
    Calls Tryd.prog 82 #[.agg #[.int .u64 a0_0, .int .u64 a0_1], .agg #[.int .u64 a1_0, .int .u64 a1_1]] w fun e w' => e = .returned (.bool r) ∧ Below w.heap.size w w' := by
  have hu85 := Tryd.underlying85
  have HB := Aside0.mk (Below.refl w.heap.size w)
  have H : (if a0_0 < a1_0 then (some true) else (if a0_0 = a1_0 then (some (decide (a0_1 < a1_1))) else (some false))) = some r := h
  clear h
  by_cases c3 : a0_0 < a1_0
  · rw [if_pos c3] at H
    have c3b0 : decide (a0_0 < a1_0) = true := decide_eq_true c3
    clear c3
    obtain rfl := Option.some.inj H
    go_enter Tryd.func82, Tryd.ntmps82
    go_wp2_with (first | ((with_reducible refine gd 2 rfl ?_); refine bx_ 2 85 #[.int .u64 a0_0, .int .u64 a0_1] rfl rfl ?_; intro gb885 hg w4 BK885 hb; have GE885 := bz HB hg; replace HB := bs HB hb; clear hb hg) | ((with_reducible refine gd 3 rfl ?_); refine bx_ 3 85 #[.int .u64 a1_0, .int .u64 a1_1] rfl rfl ?_; intro gb886 hg w5 BK886 hb; have GE886 := bz HB hg; have ⟨NB885_886, NB886_885⟩ := nb BK885 hg; replace BK885 := bb BK885 hb; replace HB := bs HB hb; clear hb hg; have hnb6 := nn NB885_886; have hcz7 := k2 BK885; have hcz8 := k2 BK886))
    go_ret
    exact ⟨ae, bf HB⟩
  · rw [if_neg c3] at H
    have c3b0 : decide (a0_0 < a1_0) = false := decide_eq_false c3
    clear c3
    by_cases c9 : a0_0 = a1_0
    · rw [if_pos c9] at H
      have c9b0 : (a0_0 == a1_0) = true := beq_iff_eq.mpr c9
      have c9b1 : (a0_0 != a1_0) = false := bne_eq_false_iff_eq.mpr c9
      clear c9
      obtain rfl := Option.some.inj H
      go_enter Tryd.func82, Tryd.ntmps82
      go_wp2_with (first | ((with_reducible refine gd 2 rfl ?_); refine bx_ 2 85 #[.int .u64 a0_0, .int .u64 a0_1] rfl rfl ?_; intro gb885 hg w10 BK885 hb; have GE885 := bz HB hg; replace HB := bs HB hb; clear hb hg) | ((with_reducible refine gd 3 rfl ?_); refine bx_ 3 85 #[.int .u64 a1_0, .int .u64 a1_1] rfl rfl ?_; intro gb886 hg w11 BK886 hb; have GE886 := bz HB hg; have ⟨NB885_886, NB886_885⟩ := nb BK885 hg; replace BK885 := bb BK885 hb; replace HB := bs HB hb; clear hb hg; have hnb12 := nn NB885_886; have hcz13 := k2 BK885; have hcz14 := k2 BK886))
      go_ret
      exact ⟨ae, bf HB⟩
    · rw [if_neg c9] at H
      have c9b0 : (a0_0 == a1_0) = false := beq_eq_false_iff_ne.mpr c9
      have c9b1 : (a0_0 != a1_0) = true := bne_iff_ne.mpr c9
      obtain rfl := Option.some.inj H
      go_enter Tryd.func82, Tryd.ntmps82
      go_wp2_with (first | ((with_reducible refine gd 2 rfl ?_); refine bx_ 2 85 #[.int .u64 a0_0, .int .u64 a0_1] rfl rfl ?_; intro gb885 hg w15 BK885 hb; have GE885 := bz HB hg; replace HB := bs HB hb; clear hb hg) | ((with_reducible refine gd 3 rfl ?_); refine bx_ 3 85 #[.int .u64 a1_0, .int .u64 a1_1] rfl rfl ?_; intro gb886 hg w16 BK886 hb; have GE886 := bz HB hg; have ⟨NB885_886, NB886_885⟩ := nb BK885 hg; replace BK885 := bb BK885 hb; replace HB := bs HB hb; clear hb hg; have hnb17 := nn NB885_886; have hcz18 := k2 BK885; have hcz19 := k2 BK886))
      go_ret
      exact ⟨ae, bf HB⟩

/-! ### whole_Compare: function 58 -/
theorem whole_Compare.calls (k : Nat) (a0 : Int) (a1 : Int) (a2 : Int) (a3 : Int) (r : Int) (w : World) (h : whole_Compare.f k a0 a1 a2 a3 = some r) :
    Calls Tryd.prog 58 #[.int .i64 a0, .int .i64 a1, .int .i64 a2, .int .i64 a3] w fun e w' => e = .returned (.int .i64 r) ∧ Below w.heap.size w w' := by
  have hu85 := Tryd.underlying85
  have HB := Aside0.mk (Below.refl w.heap.size w)
  have H : ((whole_sign.f k a0 a1).bind fun t887 => ((whole_sign.f k a2 a3).bind fun t888 => ((whole_product.f a0 a1).bind fun bt889 => ((whole_product.f a2 a3).bind fun bt891 => (if t887 = t888 then (if (bt889.1 == bt891.1 && (bt889.2 == bt891.2)) = true then (some 0) else ((whole_double_less.f bt889.1 bt889.2 bt891.1 bt891.2).bind fun t895 => (if t895 = true then (some (wrap64 (-t887))) else (some t887)))) else (some (mx (-1) (mn 1 (wrap64 (t887 - t888)))))))))) = some r := h
  clear h
  replace H := bi_ H; obtain ⟨t887, A5, H⟩ := H
  (try dsimp only at H)
  replace H := bi_ H; obtain ⟨t888, A6, H⟩ := H
  (try dsimp only at H)
  replace H := bi_ H; obtain ⟨⟨t889, t890⟩, A7, H⟩ := H
  (try dsimp only at H)
  replace H := bi_ H; obtain ⟨⟨t891, t892⟩, A8, H⟩ := H
  (try dsimp only at H)
  by_cases c9 : t887 = t888
  · rw [if_pos c9] at H
    have c9b0 : (t887 == t888) = true := beq_iff_eq.mpr c9
    have c9b1 : (t887 != t888) = false := bne_eq_false_iff_eq.mpr c9
    clear c9
    by_cases c10 : (t889 == t891 && (t890 == t892)) = true
    · rw [if_pos c10] at H
      have c10b0 : (t889 == t891 && (t890 == t892)) = true := c10
      (try (have c10b1 : decide (t889 = t891 && (t890 == t892)) = true := by simpa using c10))
      (try (have c10b2 : (t889 == t891 && (t890 == t892)) = true := by simpa using c10))
      clear c10
      obtain rfl := Option.some.inj H
      go_enter Tryd.func58, Tryd.ntmps58
      go_wp2_with (first | ((with_reducible refine gc 80 rfl ?_); refine gm_ (some 15) rfl rfl Tryd.func80 (whole_sign.calls _ _ _ _ _ A5.out) ag ?_; rintro w' ⟨nd, rfl⟩) | ((with_reducible refine gc 80 rfl ?_); refine gm_ (some 18) rfl rfl Tryd.func80 (whole_sign.calls _ _ _ _ _ A6.out) ag ?_; rintro w' ⟨nd, rfl⟩) | ((with_reducible refine gc 81 rfl ?_); refine gm_ (some 21) rfl rfl Tryd.func81 (whole_product.calls _ _ _ _ _ A7.out) ag ?_; intro w11 hb; replace HB := bs HB hb; (try clear hb)) | ((with_reducible refine gc 81 rfl ?_); refine gm_ (some 24) rfl rfl Tryd.func81 (whole_product.calls _ _ _ _ _ A8.out) ag ?_; intro w12 hb; replace HB := bs HB hb; (try clear hb)) | ((with_reducible refine gd 11 rfl ?_); refine bx_ 11 85 #[.int .u64 0, .int .u64 0] rfl rfl ?_; intro gb893 hg w13 BK893 hb; have GE893 := bz HB hg; replace HB := bs HB hb; clear hb hg) | ((with_reducible refine gd 12 rfl ?_); refine bx_ 12 85 #[.int .u64 0, .int .u64 0] rfl rfl ?_; intro gb894 hg w14 BK894 hb; have GE894 := bz HB hg; have ⟨NB893_894, NB894_893⟩ := nb BK893 hg; replace BK893 := bb BK893 hb; replace HB := bs HB hb; clear hb hg; have hnb15 := nn NB893_894; have hcz16 := k2 BK893; have hcz17 := k2 BK894))
      go_ret
      exact ⟨ae, bf HB⟩
    · rw [if_neg c10] at H
      have c10b0 : (t889 == t891 && (t890 == t892)) = false := by simpa using c10
      (try (have c10b1 : decide (t889 = t891 && (t890 == t892)) = false := by simpa using c10))
      (try (have c10b2 : (t889 == t891 && (t890 == t892)) = false := by simpa using c10))
      (try (have c10b3 : ¬ (t889 = t891 && (t890 == t892)) := by simpa using c10))
      clear c10
      replace H := bi_ H; obtain ⟨t895, A18, H⟩ := H
      (try dsimp only at H)
      by_cases c19 : t895 = true
      · subst c19
        have H1 : (some (wrap64 (-t887))) = some r := by rw [if_pos rfl] at H; exact H
        clear H
        have H := H1
        clear H1
        obtain rfl := Option.some.inj H
        go_enter Tryd.func58, Tryd.ntmps58
        go_wp2_with (first | ((with_reducible refine gc 80 rfl ?_); refine gm_ (some 15) rfl rfl Tryd.func80 (whole_sign.calls _ _ _ _ _ A5.out) ag ?_; rintro w' ⟨nd, rfl⟩) | ((with_reducible refine gc 80 rfl ?_); refine gm_ (some 18) rfl rfl Tryd.func80 (whole_sign.calls _ _ _ _ _ A6.out) ag ?_; rintro w' ⟨nd, rfl⟩) | ((with_reducible refine gc 81 rfl ?_); refine gm_ (some 21) rfl rfl Tryd.func81 (whole_product.calls _ _ _ _ _ A7.out) ag ?_; intro w20 hb; replace HB := bs HB hb; (try clear hb)) | ((with_reducible refine gc 81 rfl ?_); refine gm_ (some 24) rfl rfl Tryd.func81 (whole_product.calls _ _ _ _ _ A8.out) ag ?_; intro w21 hb; replace HB := bs HB hb; (try clear hb)) | ((with_reducible refine gd 11 rfl ?_); refine bx_ 11 85 #[.int .u64 0, .int .u64 0] rfl rfl ?_; intro gb893 hg w22 BK893 hb; have GE893 := bz HB hg; replace HB := bs HB hb; clear hb hg) | ((with_reducible refine gd 12 rfl ?_); refine bx_ 12 85 #[.int .u64 0, .int .u64 0] rfl rfl ?_; intro gb894 hg w23 BK894 hb; have GE894 := bz HB hg; have ⟨NB893_894, NB894_893⟩ := nb BK893 hg; replace BK893 := bb BK893 hb; replace HB := bs HB hb; clear hb hg; have hnb24 := nn NB893_894; have hcz25 := k2 BK893; have hcz26 := k2 BK894) | ((with_reducible refine gc 82 rfl ?_); refine gm_ (some 41) rfl rfl Tryd.func82 (whole_double_less.calls _ _ _ _ _ _ A18.out) ag ?_; intro w27 hb; replace BK893 := bp_ #[.int .u64 t889, .int .u64 t890] BK893 hb; replace BK894 := bp_ #[.int .u64 t891, .int .u64 t892] BK894 hb; replace HB := bs HB hb; (try clear hb)))
        go_ret
        exact ⟨ae, bf HB⟩
      · replace c19 := Bool.eq_false_iff.mpr c19
        subst c19
        have H1 : (some t887) = some r := by rw [if_neg (show ¬ (false = true) by decide)] at H; exact H
        clear H
        have H := H1
        clear H1
        obtain rfl := Option.some.inj H
        go_enter Tryd.func58, Tryd.ntmps58
        go_wp2_with (first | ((with_reducible refine gc 80 rfl ?_); refine gm_ (some 15) rfl rfl Tryd.func80 (whole_sign.calls _ _ _ _ _ A5.out) ag ?_; rintro w' ⟨nd, rfl⟩) | ((with_reducible refine gc 80 rfl ?_); refine gm_ (some 18) rfl rfl Tryd.func80 (whole_sign.calls _ _ _ _ _ A6.out) ag ?_; rintro w' ⟨nd, rfl⟩) | ((with_reducible refine gc 81 rfl ?_); refine gm_ (some 21) rfl rfl Tryd.func81 (whole_product.calls _ _ _ _ _ A7.out) ag ?_; intro w28 hb; replace HB := bs HB hb; (try clear hb)) | ((with_reducible refine gc 81 rfl ?_); refine gm_ (some 24) rfl rfl Tryd.func81 (whole_product.calls _ _ _ _ _ A8.out) ag ?_; intro w29 hb; replace HB := bs HB hb; (try clear hb)) | ((with_reducible refine gd 11 rfl ?_); refine bx_ 11 85 #[.int .u64 0, .int .u64 0] rfl rfl ?_; intro gb893 hg w30 BK893 hb; have GE893 := bz HB hg; replace HB := bs HB hb; clear hb hg) | ((with_reducible refine gd 12 rfl ?_); refine bx_ 12 85 #[.int .u64 0, .int .u64 0] rfl rfl ?_; intro gb894 hg w31 BK894 hb; have GE894 := bz HB hg; have ⟨NB893_894, NB894_893⟩ := nb BK893 hg; replace BK893 := bb BK893 hb; replace HB := bs HB hb; clear hb hg; have hnb32 := nn NB893_894; have hcz33 := k2 BK893; have hcz34 := k2 BK894) | ((with_reducible refine gc 82 rfl ?_); refine gm_ (some 41) rfl rfl Tryd.func82 (whole_double_less.calls _ _ _ _ _ _ A18.out) ag ?_; intro w35 hb; replace BK893 := bp_ #[.int .u64 t889, .int .u64 t890] BK893 hb; replace BK894 := bp_ #[.int .u64 t891, .int .u64 t892] BK894 hb; replace HB := bs HB hb; (try clear hb)))
        go_ret
        exact ⟨ae, bf HB⟩
  · rw [if_neg c9] at H
    have c9b0 : (t887 == t888) = false := beq_eq_false_iff_ne.mpr c9
    have c9b1 : (t887 != t888) = true := bne_iff_ne.mpr c9
    obtain ⟨ji36, hji36⟩ : ∃ j_ : Int, (mn 1 (wrap64 (t887 - t888))) = j_ := ⟨_, rfl⟩
    replace H : (some (mx (-1) (ji36))) = some r := by first | (rw [hji36] at H; exact H) | (simp only [hji36] at H ⊢; exact H)
    (try rw [hji36] at A5)
    (try rw [hji36] at A6)
    (try rw [hji36] at A7)
    (try rw [hji36] at A8)
    (try (have hji36h : ji36 ≤ 1 := by (rw [← hji36]; unfold mn; (repeat' split) <;> omega)))
    (try (have hji36g : ji36 ≤ 64 := by omega))
    have hji36_ : (if (wrap64 (t887 - t888)) < 1 then (wrap64 (t887 - t888)) else 1) = ji36 := hji36
    obtain ⟨ji37, hji37⟩ : ∃ j_ : Int, (mx (-1) (ji36)) = j_ := ⟨_, rfl⟩
    replace H : (some ji37) = some r := by first | (rw [hji37] at H; exact H) | (simp only [hji37] at H ⊢; exact H)
    (try rw [hji37] at A5)
    (try rw [hji37] at A6)
    (try rw [hji37] at A7)
    (try rw [hji37] at A8)
    have hji37_ : (if (-1) < (ji36) then (ji36) else (-1)) = ji37 := hji37
    obtain rfl := Option.some.inj H
    go_enter Tryd.func58, Tryd.ntmps58
    go_wp2_with (first | ((with_reducible refine gc 80 rfl ?_); refine gm_ (some 15) rfl rfl Tryd.func80 (whole_sign.calls _ _ _ _ _ A5.out) ag ?_; rintro w' ⟨nd, rfl⟩) | ((with_reducible refine gc 80 rfl ?_); refine gm_ (some 18) rfl rfl Tryd.func80 (whole_sign.calls _ _ _ _ _ A6.out) ag ?_; rintro w' ⟨nd, rfl⟩) | ((with_reducible refine gc 81 rfl ?_); refine gm_ (some 21) rfl rfl Tryd.func81 (whole_product.calls _ _ _ _ _ A7.out) ag ?_; intro w38 hb; replace HB := bs HB hb; (try clear hb)) | ((with_reducible refine gc 81 rfl ?_); refine gm_ (some 24) rfl rfl Tryd.func81 (whole_product.calls _ _ _ _ _ A8.out) ag ?_; intro w39 hb; replace HB := bs HB hb; (try clear hb)) | ((with_reducible refine gd 11 rfl ?_); refine bx_ 11 85 #[.int .u64 0, .int .u64 0] rfl rfl ?_; intro gb893 hg w40 BK893 hb; have GE893 := bz HB hg; replace HB := bs HB hb; clear hb hg) | ((with_reducible refine gd 12 rfl ?_); refine bx_ 12 85 #[.int .u64 0, .int .u64 0] rfl rfl ?_; intro gb894 hg w41 BK894 hb; have GE894 := bz HB hg; have ⟨NB893_894, NB894_893⟩ := nb BK893 hg; replace BK893 := bb BK893 hb; replace HB := bs HB hb; clear hb hg; have hnb42 := nn NB893_894; have hcz43 := k2 BK893; have hcz44 := k2 BK894))
    go_ret
    exact ⟨by first | rfl | (simp [errW_none, errW_some] <;> rfl) | (simp only [← hji36, ← hji37]; first | rfl | (simp [errW_none, errW_some] <;> rfl)) | (simp [*, errW_none, errW_some] <;> rfl), bf HB⟩

end Go.Proofs.YtjgnaccamakpdaaDoor.X
