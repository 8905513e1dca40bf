/- Walks: each '.calls' says that the Go function comes to what its Lean function tells. Conditions: as each theorem's head says. -/
import Derived.Test.YtpdmiookdmncpaaDoorXD
import Derived.Test.YtpdmiookdmncpaaDoorX0
import Derived.Test.YtpdmiookdmncpaaDoorX6
import Derived.Test.YtpdmiookdmncpaaDoorX7
namespace Go.Proofs.YtpdmiookdmncpaaDoor.X
open Go.RowKit Go.Proofs.YtpdmiookdmncpaaDoorW.PrintWords Go.Proofs.YtpdmiookdmncpaaDoorW.PrintLast Go.Proofs.YtpdmiookdmncpaaDoorW.PrintMore
attribute [local go_sem] max2_int min2_int max_two min_two max_three min_three max_four min_four   -- for this text's walks alone
set_option linter.unusedVariables false
set_option maxHeartbeats 8000000
set_option maxRecDepth 100000
set_option linter.unusedSimpArgs false

/-! ### frac_Div: function 35 -/
def frac_Div.T4 : Bool × List (List Nat × List Nat) := (true, [([], []), ([0], [0]), ([1], [1]), ([], []), ([3], [3]), ([4, 2], [4]), ([2, 5, 5], [2, 5]), ([], []), ([7], [7]), ([8, 6], [8]), ([], []), ([10], [10]), ([11, 9], [11]), ([9, 12, 12], [9, 12]), ([6, 13, 13], [6, 13]), ([14], [14]), ([14], [14]), ([15, 14, 0, 1, 2, 3, 4, 5, 6, 7, 8, 9, 10, 11, 12, 13, 14, 15, 16], [15]), ([16, 17, 0, 1, 2, 3, 4, 5, 6, 7, 8, 9, 10, 11, 12, 13, 14, 15, 16, 17], [16])])
def frac_Div.B4 : List Nat := [0, 1, 3, 0, 8, 31, 63, 0, 128, 511, 0, 1024, 4095, 8191, 16383, 32767, 32767, 131071, 262143]
theorem frac_Div.tab4 : rtab .any (opsOf Tryd.f35 4) = frac_Div.T4 := by kernel_rfl
theorem frac_Div.bits4 : waitsOk frac_Div.T4.2 frac_Div.B4 = true := by kernel_rfl
theorem frac_Div.calls (k : Nat) (a0_0 : Int) (a0_1 : Int) (a1_0 : Int) (a1_1 : Int) (r1 : Int) (r2 : Int) (r3 : Int) (w : World) (h : frac_Div.f k a0_0 a0_1 a1_0 a1_1 = some (r1, r2, r3)) (hT : TabOK w) :
    Calls Tryd.prog 35 #[.agg #[.int .i64 a0_0, .int .i64 a0_1], .agg #[.int .i64 a1_0, .int .i64 a1_1]] w fun e w' => e = .returned (.tuple #[.agg #[.int .i64 r1, .int .i64 r2], .int .i64 r3]) ∧ Below w.heap.size w w' := by
  have GT := Aside0.mk hT
  clear hT
  have hu23 := Tryd.underlying23
  have HB := Aside0.mk (Below.refl w.heap.size w)
  have H : ((frac_norm.f k a0_0 a0_1).bind fun bt210 => ((frac_norm.f k a1_0 a1_1).bind fun bt212 => (if bt212.1 = 0 then (some (0, 0, 3)) else ((frac_sized.f bt210.1).bind fun bt214 => ((frac_sized.f bt212.2).bind fun bt217 => ((frac_signed_times.f bt214.1 bt214.2.1 bt214.2.2 bt217.1 bt217.2.1 bt217.2.2).bind fun bt220 => ((frac_sized.f bt210.2).bind fun bt223 => ((frac_sized.f bt212.1).bind fun bt226 => ((frac_signed_times.f bt223.1 bt223.2.1 bt223.2.2 bt226.1 bt226.2.1 bt226.2.2).bind fun bt229 => ((frac_reduced.f k bt220.1 bt220.2.1 bt220.2.2 bt229.1 bt229.2.1 bt229.2.2).bind fun bt232 => (some (bt232.1, bt232.2.1, bt232.2.2)))))))))))) = some (r1, r2, r3) := h
  clear h
  replace H := bi_ H; obtain ⟨⟨t210, t211⟩, A3, H⟩ := H
  (try dsimp only at H)
  replace H := bi_ H; obtain ⟨⟨t212, t213⟩, A4, H⟩ := H
  (try dsimp only at H)
  by_cases c5 : t212 = 0
  · rw [if_pos c5] at H
    have c5b0 : (t212 == 0) = true := beq_iff_eq.mpr c5
    have c5b1 : (t212 != 0) = false := bne_eq_false_iff_eq.mpr c5
    clear c5
    simp only [Option.some.injEq, Prod.mk.injEq] at H
    obtain ⟨rfl, rfl, rfl⟩ := H
    go_enter Tryd.func35, Tryd.ntmps35
    try go_wp2_with (first | ((with_reducible refine gd 2 rfl ?_); refine bx_ 2 23 #[.int .i64 a0_0, .int .i64 a0_1] rfl rfl ?_; intro gb207 hg w6 BK207 hb; have GE207 := bz HB hg; replace HB := bs HB hb; clear hb hg) | ((with_reducible refine gd 3 rfl ?_); refine bx_ 3 23 #[.int .i64 a1_0, .int .i64 a1_1] rfl rfl ?_; intro gb208 hg w7 BK208 hb; have GE208 := bz HB hg; have ⟨NB207_208, NB208_207⟩ := nb BK207 hg; replace BK207 := bb BK207 hb; replace HB := bs HB hb; clear hb hg) | ((with_reducible refine gd 4 rfl ?_); refine bx_ 4 23 #[.int .i64 0, .int .i64 0] rfl rfl ?_; intro gb209 hg w8 BK209 hb; have GE209 := bz HB hg; have ⟨NB207_209, NB209_207⟩ := nb BK207 hg; have ⟨NB208_209, NB209_208⟩ := nb BK208 hg; replace BK207 := bb BK207 hb; replace BK208 := bb BK208 hb; replace HB := bs HB hb; clear hb hg))
    replace BK207 := Aside0.mk (blk_drew BK207.out)
    replace BK208 := Aside0.mk (blk_drew BK208.out)
    replace BK209 := Aside0.mk (blk_drew BK209.out)
    replace HB := Aside0.mk (below_drew1 HB.out)
    refine start_ (n := 6) (S := fun w' => c_ w' gb207 0 (.int .i64 a0_0) ∧ c_ w' gb207 1 (.int .i64 a0_1) ∧ c_ w' gb208 0 (.int .i64 a1_0) ∧ c_ w' gb208 1 (.int .i64 a1_1)) (ds := [4, 5]) (m_ 6 0) (by kernel_rfl) rfl rfl ⟨ct BK207 0, ct BK207 1, ct BK208 0, ct BK208 1⟩ (fun hHeld => ?_)
    generalize w8.drew = w9 at BK207 BK208 BK209 HB hHeld ⊢
    refine tk_ 0 (some 6) (m_ 6 1) rfl rfl (by kernel_rfl) hHeld ?_
    refine tk_ 2 (some 8) (m_ 6 5) rfl rfl (by kernel_rfl) hHeld ?_
    refine o1_ 1 (some 7) (m_ 6 7) rfl rfl (by kernel_rfl) (fun K hK => ?_)
    refine gs_ rfl Tryd.func66 (frac_norm.calls _ _ _ _ _ _ A3.out (tt GT)) ag ?_
    intro w10 hb
    replace BK207 := bb BK207 hb
    replace BK208 := bb BK208 hb
    replace BK209 := bb BK209 hb
    replace HB := bs HB hb
    (try clear hb)
    refine hK.out _ _ ⟨ct BK207 0, ct BK207 1, ct BK208 0, ct BK208 1⟩ (fun hHeld => ?_)
    clear hK K
    refine nr_ (some 7) ?_
    refine o1_ 3 (some 9) (m_ 6 15) rfl rfl (by kernel_rfl) (fun K hK => ?_)
    refine gs_ rfl Tryd.func66 (frac_norm.calls _ _ _ _ _ _ A4.out (tt GT)) ag ?_
    intro w11 hb
    replace BK207 := bb BK207 hb
    replace BK208 := bb BK208 hb
    replace BK209 := bb BK209 hb
    replace HB := bs HB hb
    (try clear hb)
    refine hK.out _ _ ⟨ct BK207 0, ct BK207 1, ct BK208 0, ct BK208 1⟩ (fun hHeld => ?_)
    clear hK K
    refine nr_ (some 9) ?_
    refine last_ (i := 4) (N := none) (m_ 6 31) rfl rfl (by kernel_rfl) (by decide) (fun K hK => ?_)
    have hs12 : c_ w11 gb207 0 (.int .i64 a0_0) := ct BK207 0
    have hfs12 := blk_frozen BK207.out 0
    have hns12_1 := NB208_207.out
    have hns12_2 := NB209_207.out
    have hms12_1 := NB207_208.out
    have hms12_2 := NB207_209.out
    have hs13 : c_ w11 gb207 1 (.int .i64 a0_1) := ct BK207 1
    have hfs13 := blk_frozen BK207.out 1
    have hns13_1 := NB208_207.out
    have hns13_2 := NB209_207.out
    have hms13_1 := NB207_208.out
    have hms13_2 := NB207_209.out
    refine skip_ (w1 := ?_) (by rfl) rfl ?_ ?_
    rotate_left
    · go_simp
      rfl
    refine hK.out _ _ ?_
    clear hK K
    refine last_ (i := 5) (N := none) (m_ 6 63) rfl rfl (by kernel_rfl) (by decide) (fun K hK => ?_)
    have hs14 : c_ w11 gb208 0 (.int .i64 a1_0) := ct BK208 0
    have hfs14 := blk_frozen BK208.out 0
    have hns14_0 := NB207_208.out
    have hns14_2 := NB209_208.out
    have hms14_0 := NB208_207.out
    have hms14_2 := NB208_209.out
    have hs15 : c_ w11 gb208 1 (.int .i64 a1_1) := ct BK208 1
    have hfs15 := blk_frozen BK208.out 1
    have hns15_0 := NB207_208.out
    have hns15_2 := NB209_208.out
    have hms15_0 := NB208_207.out
    have hms15_2 := NB208_209.out
    refine skip_ (w1 := ?_) (by rfl) rfl ?_ ?_
    rotate_left
    · go_simp
      rfl
    refine hK.out _ _ ?_
    clear hK K
    refine done_ (by kernel_rfl) ?_
    have hnb16 := nn NB208_207
    have hnb17 := nn NB208_209
    have hcz18 := k2 BK208
    have hnb19 := nn NB209_207
    have hcz20 := k2 BK209
    try go_wp2
    refine bodyPost_ret (results_ct rfl _ _ gb209 23 #[.int .i64 0, .int .i64 0] (0, 0) _ rfl (br_ BK209) Tryd.underlying23 rfl (by kernel_rfl)) rfl ?_
    exact ⟨ae, bf HB⟩
  · rw [if_neg c5] at H
    have c5b0 : (t212 == 0) = false := beq_eq_false_iff_ne.mpr c5
    have c5b1 : (t212 != 0) = true := bne_iff_ne.mpr c5
    replace H := bi_ H; obtain ⟨⟨t214, t215, t216⟩, A21, H⟩ := H
    (try dsimp only at H)
    replace H := bi_ H; obtain ⟨⟨t217, t218, t219⟩, A22, H⟩ := H
    (try dsimp only at H)
    replace H := bi_ H; obtain ⟨⟨t220, t221, t222⟩, A23, H⟩ := H
    (try dsimp only at H)
    replace H := bi_ H; obtain ⟨⟨t223, t224, t225⟩, A24, H⟩ := H
    (try dsimp only at H)
    replace H := bi_ H; obtain ⟨⟨t226, t227, t228⟩, A25, H⟩ := H
    (try dsimp only at H)
    replace H := bi_ H; obtain ⟨⟨t229, t230, t231⟩, A26, H⟩ := H
    (try dsimp only at H)
    replace H := bi_ H; obtain ⟨⟨t232, t233, t234⟩, A27, H⟩ := H
    (try dsimp only at H)
    simp only [Option.some.injEq, Prod.mk.injEq] at H
    obtain ⟨rfl, rfl, rfl⟩ := H
    go_enter Tryd.func35, Tryd.ntmps35
    try go_wp2_with (first | ((with_reducible refine gd 2 rfl ?_); refine bx_ 2 23 #[.int .i64 a0_0, .int .i64 a0_1] rfl rfl ?_; intro gb207 hg w28 BK207 hb; have GE207 := bz HB hg; replace HB := bs HB hb; clear hb hg) | ((with_reducible refine gd 3 rfl ?_); refine bx_ 3 23 #[.int .i64 a1_0, .int .i64 a1_1] rfl rfl ?_; intro gb208 hg w29 BK208 hb; have GE208 := bz HB hg; have ⟨NB207_208, NB208_207⟩ := nb BK207 hg; replace BK207 := bb BK207 hb; replace HB := bs HB hb; clear hb hg) | ((with_reducible refine gd 4 rfl ?_); refine bx_ 4 23 #[.int .i64 0, .int .i64 0] rfl rfl ?_; intro gb209 hg w30 BK209 hb; have GE209 := bz HB hg; have ⟨NB207_209, NB209_207⟩ := nb BK207 hg; have ⟨NB208_209, NB209_208⟩ := nb BK208 hg; replace BK207 := bb BK207 hb; replace BK208 := bb BK208 hb; replace HB := bs HB hb; clear hb hg))
    replace BK207 := Aside0.mk (blk_drew BK207.out)
    replace BK208 := Aside0.mk (blk_drew BK208.out)
    replace BK209 := Aside0.mk (blk_drew BK209.out)
    replace HB := Aside0.mk (below_drew1 HB.out)
    refine start_ (n := 6) (S := fun w' => c_ w' gb207 0 (.int .i64 a0_0) ∧ c_ w' gb207 1 (.int .i64 a0_1) ∧ c_ w' gb208 0 (.int .i64 a1_0) ∧ c_ w' gb208 1 (.int .i64 a1_1)) (ds := [4, 5]) (m_ 6 0) (by kernel_rfl) rfl rfl ⟨ct BK207 0, ct BK207 1, ct BK208 0, ct BK208 1⟩ (fun hHeld => ?_)
    generalize w30.drew = w31 at BK207 BK208 BK209 HB hHeld ⊢
    refine tk_ 0 (some 6) (m_ 6 1) rfl rfl (by kernel_rfl) hHeld ?_
    refine tk_ 2 (some 8) (m_ 6 5) rfl rfl (by kernel_rfl) hHeld ?_
    refine o1_ 1 (some 7) (m_ 6 7) rfl rfl (by kernel_rfl) (fun K hK => ?_)
    refine gs_ rfl Tryd.func66 (frac_norm.calls _ _ _ _ _ _ A3.out (tt GT)) ag ?_
    intro w32 hb
    replace BK207 := bb BK207 hb
    replace BK208 := bb BK208 hb
    replace BK209 := bb BK209 hb
    replace HB := bs HB hb
    (try clear hb)
    refine hK.out _ _ ⟨ct BK207 0, ct BK207 1, ct BK208 0, ct BK208 1⟩ (fun hHeld => ?_)
    clear hK K
    refine nr_ (some 7) ?_
    refine o1_ 3 (some 9) (m_ 6 15) rfl rfl (by kernel_rfl) (fun K hK => ?_)
    refine gs_ rfl Tryd.func66 (frac_norm.calls _ _ _ _ _ _ A4.out (tt GT)) ag ?_
    intro w33 hb
    replace BK207 := bb BK207 hb
    replace BK208 := bb BK208 hb
    replace BK209 := bb BK209 hb
    replace HB := bs HB hb
    (try clear hb)
    refine hK.out _ _ ⟨ct BK207 0, ct BK207 1, ct BK208 0, ct BK208 1⟩ (fun hHeld => ?_)
    clear hK K
    refine nr_ (some 9) ?_
    refine last_ (i := 4) (N := none) (m_ 6 31) rfl rfl (by kernel_rfl) (by decide) (fun K hK => ?_)
    have hs34 : c_ w33 gb207 0 (.int .i64 a0_0) := ct BK207 0
    have hfs34 := blk_frozen BK207.out 0
    have hns34_1 := NB208_207.out
    have hns34_2 := NB209_207.out
    have hms34_1 := NB207_208.out
    have hms34_2 := NB207_209.out
    have hs35 : c_ w33 gb207 1 (.int .i64 a0_1) := ct BK207 1
    have hfs35 := blk_frozen BK207.out 1
    have hns35_1 := NB208_207.out
    have hns35_2 := NB209_207.out
    have hms35_1 := NB207_208.out
    have hms35_2 := NB207_209.out
    refine skip_ (w1 := ?_) (by rfl) rfl ?_ ?_
    rotate_left
    · go_simp
      rfl
    refine hK.out _ _ ?_
    clear hK K
    refine last_ (i := 5) (N := none) (m_ 6 63) rfl rfl (by kernel_rfl) (by decide) (fun K hK => ?_)
    have hs36 : c_ w33 gb208 0 (.int .i64 a1_0) := ct BK208 0
    have hfs36 := blk_frozen BK208.out 0
    have hns36_0 := NB207_208.out
    have hns36_2 := NB209_208.out
    have hms36_0 := NB208_207.out
    have hms36_2 := NB208_209.out
    have hs37 : c_ w33 gb208 1 (.int .i64 a1_1) := ct BK208 1
    have hfs37 := blk_frozen BK208.out 1
    have hns37_0 := NB207_208.out
    have hns37_2 := NB209_208.out
    have hms37_0 := NB208_207.out
    have hms37_2 := NB208_209.out
    refine skip_ (w1 := ?_) (by rfl) rfl ?_ ?_
    rotate_left
    · go_simp
      rfl
    refine hK.out _ _ ?_
    clear hK K
    refine done_ (by kernel_rfl) ?_
    have hnb38 := nn NB208_207
    have hnb39 := nn NB208_209
    have hcz40 := k2 BK208
    try go_wp2
    have n0_ : Aside0 (((((w33.setCell ⟨gb207, 0, none⟩ (.int .i64 t210)).setCell ⟨gb207, 1, none⟩ (.int .i64 t211)).setCell ⟨gb208, 0, none⟩ (.int .i64 t212)).setCell ⟨gb208, 1, none⟩ (.int .i64 t213)).heap[gb207]? = some (.cells #[.int .i64 t210, .int .i64 t211] 23 (0, 0))) := bq_ BK207
    have n1_ : Aside0 (((((w33.setCell ⟨gb207, 0, none⟩ (.int .i64 t210)).setCell ⟨gb207, 1, none⟩ (.int .i64 t211)).setCell ⟨gb208, 0, none⟩ (.int .i64 t212)).setCell ⟨gb208, 1, none⟩ (.int .i64 t213)).heap[gb208]? = some (.cells #[.int .i64 t212, .int .i64 t213] 23 (0, 0))) := bq_ BK208
    have n2_ : Aside0 (((((w33.setCell ⟨gb207, 0, none⟩ (.int .i64 t210)).setCell ⟨gb207, 1, none⟩ (.int .i64 t211)).setCell ⟨gb208, 0, none⟩ (.int .i64 t212)).setCell ⟨gb208, 1, none⟩ (.int .i64 t213)).heap[gb209]? = some (.cells #[.int .i64 0, .int .i64 0] 23 (0, 0))) := bu_ BK209
    have n3_ : Aside0 (Below w.heap.size w ((((w33.setCell ⟨gb207, 0, none⟩ (.int .i64 t210)).setCell ⟨gb207, 1, none⟩ (.int .i64 t211)).setCell ⟨gb208, 0, none⟩ (.int .i64 t212)).setCell ⟨gb208, 1, none⟩ (.int .i64 t213))) := ⟨bf HB⟩
    (try clear BK207); (try clear BK208); (try clear BK209); (try clear HB)
    generalize ((((w33.setCell ⟨gb207, 0, none⟩ (.int .i64 t210)).setCell ⟨gb207, 1, none⟩ (.int .i64 t211)).setCell ⟨gb208, 0, none⟩ (.int .i64 t212)).setCell ⟨gb208, 1, none⟩ (.int .i64 t213)) = w41 at n0_ n1_ n2_ n3_ ⊢
    have BK207 := n0_
    have BK208 := n1_
    have BK209 := n2_
    have HB := n3_
    clear n0_ n1_ n2_ n3_
    replace BK207 := Aside0.mk (blk_drew BK207.out)
    replace BK208 := Aside0.mk (blk_drew BK208.out)
    replace BK209 := Aside0.mk (blk_drew BK209.out)
    replace HB := Aside0.mk (below_drew1 HB.out)
    refine start_ (n := 19) (S := fun w' => c_ w' gb207 0 (.int .i64 t210) ∧ c_ w' gb207 1 (.int .i64 t211) ∧ c_ w' gb208 0 (.int .i64 t212) ∧ c_ w' gb208 1 (.int .i64 t213)) (ds := []) (m_ 19 0) (by kernel_rfl) rfl rfl ⟨ct BK207 0, ct BK207 1, ct BK208 0, ct BK208 1⟩ (fun hHeld => ?_); refine with_tabW frac_Div.tab4 frac_Div.bits4 (fun HT_ HW_ => ?_)
    generalize w41.drew = w42 at BK207 BK208 BK209 HB hHeld ⊢
    refine pu_ 0 (some 14) (m_ 19 1) rfl rfl (ao HT_) ?_
    refine pu_ 3 (some 17) (m_ 19 9) rfl rfl (ao HT_) ?_
    refine pu_ 7 (some 21) (m_ 19 137) rfl rfl (ao HT_) ?_
    refine pu_ 10 (some 24) (m_ 19 1161) rfl rfl (ao HT_) ?_
    refine tk_ 1 (some 15) (m_ 19 1163) rfl rfl (tw HT_ HW_) hHeld ?_
    refine tk_ 4 (some 18) (m_ 19 1179) rfl rfl (tw HT_ HW_) hHeld ?_
    refine tk_ 8 (some 22) (m_ 19 1435) rfl rfl (tw HT_ HW_) hHeld ?_
    refine tk_ 11 (some 25) (m_ 19 3483) rfl rfl (tw HT_ HW_) hHeld ?_
    refine o1_ 2 (some 16) (m_ 19 3487) rfl rfl (oo HT_) (fun K hK => ?_)
    refine gs_ rfl Tryd.func65 (frac_sized.calls _ _ _ _ _ A21.out) ag ?_
    intro w43 hb
    replace BK207 := bb BK207 hb
    replace BK208 := bb BK208 hb
    replace BK209 := bb BK209 hb
    replace HB := bs HB hb
    (try clear hb)
    refine hK.out _ _ ⟨ct BK207 0, ct BK207 1, ct BK208 0, ct BK208 1⟩ (fun hHeld => ?_)
    clear hK K
    refine nr_ (some 16) ?_
    refine o1_ 5 (some 19) (m_ 19 3519) rfl rfl (oo HT_) (fun K hK => ?_)
    refine gs_ rfl Tryd.func65 (frac_sized.calls _ _ _ _ _ A22.out) ag ?_
    intro w44 hb
    replace BK207 := bb BK207 hb
    replace BK208 := bb BK208 hb
    replace BK209 := bb BK209 hb
    replace HB := bs HB hb
    (try clear hb)
    refine hK.out _ _ ⟨ct BK207 0, ct BK207 1, ct BK208 0, ct BK208 1⟩ (fun hHeld => ?_)
    clear hK K
    refine nr_ (some 19) ?_
    refine o1_ 6 (some 20) (m_ 19 3583) rfl rfl (oo HT_) (fun K hK => ?_)
    refine gs_ rfl Tryd.func67 (frac_signed_times.calls _ _ _ _ _ _ _ _ _ _ A23.out) ag ?_
    intro w45 hb
    replace BK207 := bb BK207 hb
    replace BK208 := bb BK208 hb
    replace BK209 := bb BK209 hb
    replace HB := bs HB hb
    (try clear hb)
    refine hK.out _ _ ⟨ct BK207 0, ct BK207 1, ct BK208 0, ct BK208 1⟩ (fun hHeld => ?_)
    clear hK K
    refine nr_ (some 20) ?_
    refine o1_ 9 (some 23) (m_ 19 4095) rfl rfl (oo HT_) (fun K hK => ?_)
    refine gs_ rfl Tryd.func65 (frac_sized.calls _ _ _ _ _ A24.out) ag ?_
    intro w46 hb
    replace BK207 := bb BK207 hb
    replace BK208 := bb BK208 hb
    replace BK209 := bb BK209 hb
    replace HB := bs HB hb
    (try clear hb)
    refine hK.out _ _ ⟨ct BK207 0, ct BK207 1, ct BK208 0, ct BK208 1⟩ (fun hHeld => ?_)
    clear hK K
    refine nr_ (some 23) ?_
    refine o1_ 12 (some 26) (m_ 19 8191) rfl rfl (oo HT_) (fun K hK => ?_)
    refine gs_ rfl Tryd.func65 (frac_sized.calls _ _ _ _ _ A25.out) ag ?_
    intro w47 hb
    replace BK207 := bb BK207 hb
    replace BK208 := bb BK208 hb
    replace BK209 := bb BK209 hb
    replace HB := bs HB hb
    (try clear hb)
    refine hK.out _ _ ⟨ct BK207 0, ct BK207 1, ct BK208 0, ct BK208 1⟩ (fun hHeld => ?_)
    clear hK K
    refine nr_ (some 26) ?_
    refine o1_ 13 (some 27) (m_ 19 16383) rfl rfl (oo HT_) (fun K hK => ?_)
    refine gs_ rfl Tryd.func67 (frac_signed_times.calls _ _ _ _ _ _ _ _ _ _ A26.out) ag ?_
    intro w48 hb
    replace BK207 := bb BK207 hb
    replace BK208 := bb BK208 hb
    replace BK209 := bb BK209 hb
    replace HB := bs HB hb
    (try clear hb)
    refine hK.out _ _ ⟨ct BK207 0, ct BK207 1, ct BK208 0, ct BK208 1⟩ (fun hHeld => ?_)
    clear hK K
    refine nr_ (some 27) ?_
    refine o1_ 14 (some 28) (m_ 19 32767) rfl rfl (oo HT_) (fun K hK => ?_)
    refine gs_ rfl Tryd.func64 (frac_reduced.calls _ _ _ _ _ _ _ _ _ _ _ A27.out (tt GT)) ag ?_
    intro w49 hb
    replace BK207 := bb BK207 hb
    replace BK208 := bb BK208 hb
    replace BK209 := bb BK209 hb
    replace HB := bs HB hb
    (try clear hb)
    refine hK.out _ _ ⟨ct BK207 0, ct BK207 1, ct BK208 0, ct BK208 1⟩ (fun hHeld => ?_)
    clear hK K
    refine nr_ (some 28) ?_
    refine pu_ 15 (some 29) (m_ 19 65535) rfl rfl (ao HT_) ?_
    refine pu_ 16 (some 30) (m_ 19 131071) rfl rfl (ao HT_) ?_
    refine o1_ 17 (none) (m_ 19 262143) rfl rfl (oo HT_) (fun K hK => ?_)
    have hs50 : c_ w49 gb209 0 (.int .i64 0) := ct BK209 0
    have hfs50 := blk_frozen BK209.out 0
    have hns50_0 := NB207_209.out
    have hns50_1 := NB208_209.out
    have hms50_0 := NB209_207.out
    have hms50_1 := NB209_208.out
    have hs51 : c_ w49 gb209 1 (.int .i64 0) := ct BK209 1
    have hfs51 := blk_frozen BK209.out 1
    have hns51_0 := NB207_209.out
    have hns51_1 := NB208_209.out
    have hms51_0 := NB209_207.out
    have hms51_1 := NB209_208.out
    refine skip_ (w1 := ?_) (by rfl) rfl ?_ ?_
    rotate_left
    · go_simp
      rfl
    refine hK.out _ _ ⟨((cell_far (p := ⟨gb209, _, none⟩) NB207_209.out _).trans (((cell_far (p := ⟨gb209, _, none⟩) NB207_209.out _).trans (hHeld.1)))), ((cell_far (p := ⟨gb209, _, none⟩) NB207_209.out _).trans (((cell_far (p := ⟨gb209, _, none⟩) NB207_209.out _).trans (hHeld.2.1)))), ((cell_far (p := ⟨gb209, _, none⟩) NB208_209.out _).trans (((cell_far (p := ⟨gb209, _, none⟩) NB208_209.out _).trans (hHeld.2.2.1)))), ((cell_far (p := ⟨gb209, _, none⟩) NB208_209.out _).trans (((cell_far (p := ⟨gb209, _, none⟩) NB208_209.out _).trans (hHeld.2.2.2))))⟩ (fun hHeld => ?_)
    clear hK K
    refine pu_ 18 (some 5) (m_ 19 524287) rfl rfl (ao HT_) ?_
    refine done_ (done_of HT_.out (by kernel_rfl)) ?_
    try go_wp2
    refine bodyPost_ret (results_ct rfl _ _ gb209 23 #[.int .i64 t232, .int .i64 t233] (0, 0) _ rfl (br_ BK209) Tryd.underlying23 rfl (by kernel_rfl)) rfl ?_
    exact ⟨ae, bf HB⟩

/-! ### whole_Sub: function 93 -/
theorem whole_Sub.calls (a0 : Int) (a1 : Int) (r1 : Int) (r2 : Int) (w : World) (h : whole_Sub.f a0 a1 = some (r1, r2)) :
    Calls Tryd.prog 93 #[.int .i64 a0, .int .i64 a1] w fun e w' => e = .returned (.tuple #[.int .i64 r1, .int .i64 r2]) ∧ Drawn0 w w' := by
  have H : (if ((decide ((wrap64 (a0 - a1)) > a0)) != (decide (a1 < 0))) = true then (some (0, 2)) else (some (wrap64 (a0 - a1), 0))) = some (r1, r2) := h
  clear h
  by_cases c3 : ((decide ((wrap64 (a0 - a1)) > a0)) != (decide (a1 < 0))) = true
  · rw [if_pos c3] at H
    have c3b0 : ((decide ((wrap64 (a0 - a1)) > a0)) != (decide (a1 < 0))) = true := c3
    (try (have c3b1 : decide ((decide ((wrap64 (a0 - a1)) > a0)) = (decide (a1 < 0))) = false := by simpa using c3))
    (try (have c3b2 : ((decide ((wrap64 (a0 - a1)) > a0)) == (decide (a1 < 0))) = false := by simpa using c3))
    (try (have c3b3 : ¬ ((decide ((wrap64 (a0 - a1)) > a0)) = (decide (a1 < 0))) := by simpa using c3))
    clear c3
    simp only [Option.some.injEq, Prod.mk.injEq] at H
    obtain ⟨rfl, rfl⟩ := H
    go_enter Tryd.func93, Tryd.ntmps93
    go_wp2
    go_ret2
    exact ⟨aq, dr⟩
  · rw [if_neg c3] at H
    have c3b0 : ((decide ((wrap64 (a0 - a1)) > a0)) != (decide (a1 < 0))) = false := by simpa using c3
    (try (have c3b1 : decide ((decide ((wrap64 (a0 - a1)) > a0)) = (decide (a1 < 0))) = true := by simpa using c3))
    (try (have c3b2 : ((decide ((wrap64 (a0 - a1)) > a0)) == (decide (a1 < 0))) = true := by simpa using c3))
    clear c3
    simp only [Option.some.injEq, Prod.mk.injEq] at H
    obtain ⟨rfl, rfl⟩ := H
    go_enter Tryd.func93, Tryd.ntmps93
    go_wp2
    go_ret2
    exact ⟨aq, dr⟩

/-! ### whole_Neg: function 71 -/
theorem whole_Neg.calls (a0 : Int) (r1 : Int) (r2 : Int) (w : World) (h : whole_Neg.f a0 = some (r1, r2)) :
    Calls Tryd.prog 71 #[.int .i64 a0] w fun e w' => e = .returned (.tuple #[.int .i64 r1, .int .i64 r2]) ∧ Drawn0 w w' := by
  have H : ((whole_Sub.f 0 a0).bind fun bt235 => (some (bt235.1, bt235.2))) = some (r1, r2) := h
  clear h
  replace H := bi_ H; obtain ⟨⟨t235, t236⟩, A2, H⟩ := H
  (try dsimp only at H)
  simp only [Option.some.injEq, Prod.mk.injEq] at H
  obtain ⟨rfl, rfl⟩ := H
  go_enter Tryd.func71, Tryd.ntmps71
  go_wp2_with (first | ((with_reducible refine gc 93 rfl ?_); refine gm_ (some 5) rfl rfl Tryd.func93 (whole_Sub.calls _ _ _ _ _ A2.out) ag ?_; rintro w' ⟨nd, rfl⟩))
  go_ret2
  exact ⟨aq, dr⟩

/-! ### whole_Ceil: function 41 -/
theorem whole_Ceil.calls (a0 : Int) (a1 : Int) (r1 : Int) (r2 : Int) (w : World) (h : whole_Ceil.f a0 a1 = some (r1, r2)) :
    Calls Tryd.prog 41 #[.int .i64 a0, .int .i64 a1] w fun e w' => e = .returned (.tuple #[.int .i64 r1, .int .i64 r2]) ∧ Drawn0 w w' := by
  have H : (if a1 = 0 then (some (0, 3)) else (if a1 = (-1) then ((whole_Neg.f a0).bind fun bt237 => (some (bt237.1, bt237.2))) else (if (Int.tmod a0 a1) = 0 then (some (wrap64 (Int.tdiv a0 a1), 0)) else (if ((decide ((Int.tmod a0 a1) < 0)) == (decide (a1 < 0))) = true then (some (wrap64 ((wrap64 (Int.tdiv a0 a1)) + 1), 0)) else (some (wrap64 (Int.tdiv a0 a1), 0)))))) = some (r1, r2) := h
  clear h
  by_cases c3 : a1 = 0
  · rw [if_pos c3] at H
    have c3b0 : (a1 == 0) = true := beq_iff_eq.mpr c3
    have c3b1 : (a1 != 0) = false := bne_eq_false_iff_eq.mpr c3
    clear c3
    simp only [Option.some.injEq, Prod.mk.injEq] at H
    obtain ⟨rfl, rfl⟩ := H
    go_enter Tryd.func41, Tryd.ntmps41
    go_wp2
    repeat (go_quiet (fail); try go_wp2)
    go_ret2
    exact ⟨aq, dr⟩
  · rw [if_neg c3] at H
    have c3b0 : (a1 == 0) = false := beq_eq_false_iff_ne.mpr c3
    have c3b1 : (a1 != 0) = true := bne_iff_ne.mpr c3
    by_cases c4 : a1 = (-1)
    · rw [if_pos c4] at H
      have c4b0 : (a1 == (-1)) = true := beq_iff_eq.mpr c4
      have c4b1 : (a1 != (-1)) = false := bne_eq_false_iff_eq.mpr c4
      clear c4
      replace H := bi_ H; obtain ⟨⟨t237, t238⟩, A5, H⟩ := H
      (try dsimp only at H)
      simp only [Option.some.injEq, Prod.mk.injEq] at H
      obtain ⟨rfl, rfl⟩ := H
      go_enter Tryd.func41, Tryd.ntmps41
      go_wp2_with (first | (go_at_call 71; (with_reducible refine (whole_Neg.calls _ _ _ _ A5.out).mono ?_); rintro e w' ⟨rfl, ⟨nd, rfl⟩⟩; (try first | exact ⟨rfl, _, World.drewN_drewN _ _ _⟩ | exact ⟨rfl, _, Eq.trans (World.drewN_drewN _ _ _) (congrArg (World.drewN _) (Nat.add_assoc _ _ _))⟩)))
      repeat (go_quiet (first | (go_at_call 71; (with_reducible refine (whole_Neg.calls _ _ _ _ A5.out).mono ?_); rintro e w' ⟨rfl, ⟨nd, rfl⟩⟩; (try first | exact ⟨rfl, _, World.drewN_drewN _ _ _⟩ | exact ⟨rfl, _, Eq.trans (World.drewN_drewN _ _ _) (congrArg (World.drewN _) (Nat.add_assoc _ _ _))⟩))); try go_wp2_with (first | (go_at_call 71; (with_reducible refine (whole_Neg.calls _ _ _ _ A5.out).mono ?_); rintro e w' ⟨rfl, ⟨nd, rfl⟩⟩; (try first | exact ⟨rfl, _, World.drewN_drewN _ _ _⟩ | exact ⟨rfl, _, Eq.trans (World.drewN_drewN _ _ _) (congrArg (World.drewN _) (Nat.add_assoc _ _ _))⟩))))
      go_ret2
      exact ⟨aq, dr⟩
    · rw [if_neg c4] at H
      have c4b0 : (a1 == (-1)) = false := beq_eq_false_iff_ne.mpr c4
      have c4b1 : (a1 != (-1)) = true := bne_iff_ne.mpr c4
      by_cases c6 : (Int.tmod a0 a1) = 0
      · rw [if_pos c6] at H
        have c6b0 : ((Int.tmod a0 a1) == 0) = true := beq_iff_eq.mpr c6
        have c6b1 : ((Int.tmod a0 a1) != 0) = false := bne_eq_false_iff_eq.mpr c6
        clear c6
        simp only [Option.some.injEq, Prod.mk.injEq] at H
        obtain ⟨rfl, rfl⟩ := H
        go_enter Tryd.func41, Tryd.ntmps41
        go_wp2
        repeat (go_quiet (fail); try go_wp2)
        go_ret2
        exact ⟨aq, dr⟩
      · rw [if_neg c6] at H
        have c6b0 : ((Int.tmod a0 a1) == 0) = false := beq_eq_false_iff_ne.mpr c6
        have c6b1 : ((Int.tmod a0 a1) != 0) = true := bne_iff_ne.mpr c6
        by_cases c7 : ((decide ((Int.tmod a0 a1) < 0)) == (decide (a1 < 0))) = true
        · rw [if_pos c7] at H
          have c7b0 : ((decide ((Int.tmod a0 a1) < 0)) == (decide (a1 < 0))) = true := c7
          (try (have c7b1 : decide ((decide ((Int.tmod a0 a1) < 0)) = (decide (a1 < 0))) = true := by simpa using c7))
          (try (have c7b2 : ((decide ((Int.tmod a0 a1) < 0)) == (decide (a1 < 0))) = true := by simpa using c7))
          clear c7
          simp only [Option.some.injEq, Prod.mk.injEq] at H
          obtain ⟨rfl, rfl⟩ := H
          go_enter Tryd.func41, Tryd.ntmps41
          go_wp2
          repeat (go_quiet (fail); try go_wp2)
          go_ret2
          exact ⟨aq, dr⟩
        · rw [if_neg c7] at H
          have c7b0 : ((decide ((Int.tmod a0 a1) < 0)) == (decide (a1 < 0))) = false := by simpa using c7
          (try (have c7b1 : decide ((decide ((Int.tmod a0 a1) < 0)) = (decide (a1 < 0))) = false := by simpa using c7))
          (try (have c7b2 : ((decide ((Int.tmod a0 a1) < 0)) == (decide (a1 < 0))) = false := by simpa using c7))
          (try (have c7b3 : ¬ ((decide ((Int.tmod a0 a1) < 0)) = (decide (a1 < 0))) := by simpa using c7))
          clear c7
          simp only [Option.some.injEq, Prod.mk.injEq] at H
          obtain ⟨rfl, rfl⟩ := H
          go_enter Tryd.func41, Tryd.ntmps41
          go_wp2
          repeat (go_quiet (fail); try go_wp2)
          go_ret2
          exact ⟨aq, dr⟩

/-! ### frac_Ceil: function 36 -/
theorem frac_Ceil.calls (k : Nat) (a0_0 : Int) (a0_1 : Int) (r : Int) (w : World) (h : frac_Ceil.f k a0_0 a0_1 = some r) (hT : TabOK w) :
    Calls Tryd.prog 36 #[.agg #[.int .i64 a0_0, .int .i64 a0_1]] w fun e w' => e = .returned (.int .i64 r) ∧ Below w.heap.size w w' := by
  have GT := Aside0.mk hT
  clear hT
  have hu23 := Tryd.underlying23
  have HB := Aside0.mk (Below.refl w.heap.size w)
  have H : ((frac_norm.f k a0_0 a0_1).bind fun bt240 => ((whole_Ceil.f bt240.1 bt240.2).bind fun bt242 => (some bt242.1))) = some r := h
  clear h
  replace H := bi_ H; obtain ⟨⟨t240, t241⟩, A2, H⟩ := H
  (try dsimp only at H)
  replace H := bi_ H; obtain ⟨⟨t242, t243⟩, A3, H⟩ := H
  (try dsimp only at H)
  obtain rfl := Option.some.inj H
  go_enter Tryd.func36, Tryd.ntmps36
  go_wp2_with (first | ((with_reducible refine gd 1 rfl ?_); refine bx_ 1 23 #[.int .i64 a0_0, .int .i64 a0_1] rfl rfl ?_; intro gb239 hg w4 BK239 hb; have GE239 := bz HB hg; replace HB := bs HB hb; clear hb hg; have hcz5 := k2 BK239) | ((with_reducible refine gc 66 rfl ?_); refine gm_ (some 6) rfl rfl Tryd.func66 (frac_norm.calls _ _ _ _ _ _ A2.out (tt GT)) ag ?_; intro w6 hb; replace BK239 := bb BK239 hb; replace HB := bs HB hb; (try clear hb); have hcz7 := k2 BK239) | ((with_reducible refine gc 41 rfl ?_); refine gm_ (some 12) rfl rfl Tryd.func41 (whole_Ceil.calls _ _ _ _ _ A3.out) ag ?_; rintro w' ⟨nd, rfl⟩))
  go_ret
  exact ⟨ae, bf HB⟩

end Go.Proofs.YtpdmiookdmncpaaDoor.X
