/- Walks: each '.calls' says that the Go function comes to what its Lean function tells. Conditions: as each theorem's head says. -/
import Derived.Test.YtcdaedhphdmnoaaDoorXD
import Derived.Test.YtcdaedhphdmnoaaDoorX0
import Derived.Test.YtcdaedhphdmnoaaDoorX4
import Derived.Test.YtcdaedhphdmnoaaDoorX5
namespace Go.Proofs.YtcdaedhphdmnoaaDoor.X
open Go.RowKit Go.Proofs.YtcdaedhphdmnoaaDoorW.PrintWords Go.Proofs.YtcdaedhphdmnoaaDoorW.PrintLast Go.Proofs.YtcdaedhphdmnoaaDoorW.PrintMore
attribute [local go_sem] max2_int min2_int max_two min_two max_three min_three max_four min_four   -- for this text's walks alone
set_option linter.unusedVariables false
set_option maxHeartbeats 8000000
set_option maxRecDepth 100000
set_option linter.unusedSimpArgs false

/-! ### frac_reduced: function 42 -/
def frac_reduced.T2 : Bool × List (List Nat × List Nat) := (true, [([], []), ([0], [0]), ([], []), ([1, 2], [1, 2]), ([], []), ([4], [4]), ([], []), ([5, 6, 3], [5, 6]), ([0, 1, 2, 3], []), ([8, 3, 7, 0, 1, 2, 3], [3, 8]), ([0, 1, 2, 3, 4, 5, 6, 7, 8, 9], []), ([10, 7, 9, 0, 1, 2, 3, 4, 5, 6, 7, 8, 9], [7, 10])])
def frac_reduced.B2 : List Nat := [0, 1, 0, 7, 0, 16, 0, 127, 15, 511, 1023, 2047]
theorem frac_reduced.tab2 : rtab .any (opsOf Tryd.f42 2) = frac_reduced.T2 := by kernel_rfl
theorem frac_reduced.bits2 : waitsOk frac_reduced.T2.2 frac_reduced.B2 = true := by kernel_rfl
theorem frac_reduced.calls (k : Nat) (a0_0 : Bool) (a0_1 : Int) (a0_2 : Int) (a1_0 : Bool) (a1_1 : Int) (a1_2 : Int) (r1 : Int) (r2 : Int) (r3 : Int) (w : World) (h : frac_reduced.f k a0_0 a0_1 a0_2 a1_0 a1_1 a1_2 = some (r1, r2, r3)) (hT : TabOK w) :
    Calls Tryd.prog 42 #[.agg #[.bool a0_0, .int .u64 a0_1, .int .u64 a0_2], .agg #[.bool a1_0, .int .u64 a1_1, .int .u64 a1_2]] w fun e w' => e = .returned (.tuple #[.agg #[.int .i64 r1, .int .i64 r2], .int .i64 r3]) ∧ Below w.heap.size w w' := by
  have GT := Aside0.mk hT
  clear hT
  have hu69 := Tryd.underlying69
  have hu23 := Tryd.underlying23
  have hu67 := Tryd.underlying67
  have HB := Aside0.mk (Below.refl w.heap.size w)
  have H : ((frac_gcd.f k a0_1 a0_2 a1_1 a1_2).bind fun bt160 => ((frac_wide_over.f k a0_1 a0_2 bt160.1 bt160.2).bind fun bt163 => ((frac_wide_over.f k a1_1 a1_2 bt160.1 bt160.2).bind fun bt165 => ((frac_signed_whole.f (a0_0 != a1_0) bt163.1 bt163.2).bind fun bt167 => ((frac_signed_whole.f false bt165.1 bt165.2).bind fun bt169 => (if bt167.2 = true then (if bt169.2 = true then (some (bt167.1, bt169.1, 0)) else (some (0, 0, 2))) else (some (0, 0, 2)))))))) = some (r1, r2, r3) := h
  clear h
  replace H := bi_ H; obtain ⟨⟨t160, t161⟩, A3, H⟩ := H
  (try dsimp only at H)
  replace H := bi_ H; obtain ⟨⟨t163, t164⟩, A4, H⟩ := H
  (try dsimp only at H)
  replace H := bi_ H; obtain ⟨⟨t165, t166⟩, A5, H⟩ := H
  (try dsimp only at H)
  replace H := bi_ H; obtain ⟨⟨t167, t168⟩, A6, H⟩ := H
  (try dsimp only at H)
  replace H := bi_ H; obtain ⟨⟨t169, t170⟩, A7, H⟩ := H
  (try dsimp only at H)
  by_cases c8 : t168 = true
  · subst c8
    have H1 : (if t170 = true then (some (t167, t169, 0)) else (some (0, 0, 2))) = some (r1, r2, r3) := by rw [if_pos rfl] at H; exact H
    clear H
    have H := H1
    clear H1
    by_cases c9 : t170 = true
    · subst c9
      have H1 : (some (t167, t169, 0)) = some (r1, r2, r3) := by rw [if_pos rfl] at H; exact H
      clear H
      have H := H1
      clear H1
      simp only [Option.some.injEq, Prod.mk.injEq] at H
      obtain ⟨rfl, rfl, rfl⟩ := H
      go_enter Tryd.func42, Tryd.ntmps42
      try go_wp2_with (first | ((with_reducible refine gd 2 rfl ?_); refine bx_ 2 69 #[.bool a0_0, .int .u64 a0_1, .int .u64 a0_2] rfl rfl ?_; intro gb157 hg w10 BK157 hb; have GE157 := bz HB hg; replace HB := bs HB hb; clear hb hg) | ((with_reducible refine gd 3 rfl ?_); refine bx_ 3 69 #[.bool a1_0, .int .u64 a1_1, .int .u64 a1_2] rfl rfl ?_; intro gb158 hg w11 BK158 hb; have GE158 := bz HB hg; have ⟨NB157_158, NB158_157⟩ := nb BK157 hg; replace BK157 := bb BK157 hb; replace HB := bs HB hb; clear hb hg) | ((with_reducible refine gd 4 rfl ?_); refine bx_ 4 23 #[.int .i64 0, .int .i64 0] rfl rfl ?_; intro gb159 hg w12 BK159 hb; have GE159 := bz HB hg; have ⟨NB157_159, NB159_157⟩ := nb BK157 hg; have ⟨NB158_159, NB159_158⟩ := nb BK158 hg; replace BK157 := bb BK157 hb; replace BK158 := bb BK158 hb; replace HB := bs HB hb; clear hb hg; have hnb13 := nn NB157_158; have hnb14 := nn NB157_159; have hcz15 := X.k3 BK157; have hnb16 := nn NB158_159; have hcz17 := X.k3 BK158) | ((with_reducible refine gc 68 rfl ?_); refine gm_ (some 15) rfl rfl Tryd.func68 (frac_gcd.calls _ _ _ _ _ _ _ _ A3.out (tt GT)) ag ?_; intro w18 hb; replace BK157 := bb BK157 hb; replace BK158 := bb BK158 hb; replace BK159 := bb BK159 hb; replace HB := bs HB hb; (try clear hb)) | ((with_reducible refine gd 6 rfl ?_); refine bx_ 6 67 #[.int .u64 0, .int .u64 0] rfl rfl ?_; intro gb162 hg w19 BK162 hb; have GE162 := bz HB hg; have ⟨NB157_162, NB162_157⟩ := nb BK157 hg; have ⟨NB158_162, NB162_158⟩ := nb BK158 hg; have ⟨NB159_162, NB162_159⟩ := nb BK159 hg; replace BK157 := bb BK157 hb; replace BK158 := bb BK158 hb; replace BK159 := bb BK159 hb; replace HB := bs HB hb; clear hb hg; have hnb20 := nn NB162_157; have hnb21 := nn NB162_158; have hnb22 := nn NB162_159; have hcz23 := X.k2 BK162))
      have n0_ : Aside0 (((w19.setCell ⟨gb162, 0, none⟩ (.int .u64 t160)).setCell ⟨gb162, 1, none⟩ (.int .u64 t161)).heap[gb157]? = some (.cells #[.bool a0_0, .int .u64 a0_1, .int .u64 a0_2] 69 (0, 0))) := bu_ BK157
      have n1_ : Aside0 (((w19.setCell ⟨gb162, 0, none⟩ (.int .u64 t160)).setCell ⟨gb162, 1, none⟩ (.int .u64 t161)).heap[gb158]? = some (.cells #[.bool a1_0, .int .u64 a1_1, .int .u64 a1_2] 69 (0, 0))) := bu_ BK158
      have n2_ : Aside0 (((w19.setCell ⟨gb162, 0, none⟩ (.int .u64 t160)).setCell ⟨gb162, 1, none⟩ (.int .u64 t161)).heap[gb159]? = some (.cells #[.int .i64 0, .int .i64 0] 23 (0, 0))) := bu_ BK159
      have n3_ : Aside0 (((w19.setCell ⟨gb162, 0, none⟩ (.int .u64 t160)).setCell ⟨gb162, 1, none⟩ (.int .u64 t161)).heap[gb162]? = some (.cells #[.int .u64 t160, .int .u64 t161] 67 (0, 0))) := bq_ BK162
      have n4_ : Aside0 (Below w.heap.size w ((w19.setCell ⟨gb162, 0, none⟩ (.int .u64 t160)).setCell ⟨gb162, 1, none⟩ (.int .u64 t161))) := ⟨bf HB⟩
      (try clear BK157); (try clear BK158); (try clear BK159); (try clear BK162); (try clear HB)
      generalize ((w19.setCell ⟨gb162, 0, none⟩ (.int .u64 t160)).setCell ⟨gb162, 1, none⟩ (.int .u64 t161)) = w24 at n0_ n1_ n2_ n3_ n4_ ⊢
      have BK157 := n0_
      have BK158 := n1_
      have BK159 := n2_
      have BK162 := n3_
      have HB := n4_
      clear n0_ n1_ n2_ n3_ n4_
      replace BK157 := Aside0.mk (blk_drew BK157.out)
      replace BK158 := Aside0.mk (blk_drew BK158.out)
      replace BK159 := Aside0.mk (blk_drew BK159.out)
      replace BK162 := Aside0.mk (blk_drew BK162.out)
      replace HB := Aside0.mk (below_drew1 HB.out)
      refine start_ (n := 12) (S := fun w' => c_ w' gb157 0 (.bool a0_0) ∧ c_ w' gb157 1 (.int .u64 a0_1) ∧ c_ w' gb157 2 (.int .u64 a0_2) ∧ c_ w' gb162 0 (.int .u64 t160) ∧ c_ w' gb162 1 (.int .u64 t161) ∧ c_ w' gb158 0 (.bool a1_0) ∧ c_ w' gb158 1 (.int .u64 a1_1) ∧ c_ w' gb158 2 (.int .u64 a1_2)) (ds := [9, 11]) (m_ 12 0) (by kernel_rfl) rfl rfl ⟨ct BK157 0, ct BK157 1, ct BK157 2, ct BK162 0, ct BK162 1, ct BK158 0, ct BK158 1, ct BK158 2⟩ (fun hHeld => ?_); refine with_tabW frac_reduced.tab2 frac_reduced.bits2 (fun HT_ HW_ => ?_)
      generalize w24.drew = w25 at BK157 BK158 BK159 BK162 HB hHeld ⊢
      refine pu_ 0 (some 16) (m_ 12 1) rfl rfl (ao HT_) ?_
      refine pu_ 4 (some 20) (m_ 12 17) rfl rfl (ao HT_) ?_
      refine tk_ 1 (some 17) (m_ 12 19) rfl rfl (tw HT_ HW_) hHeld ?_
      refine tk_ 2 (some 18) (m_ 12 23) rfl rfl (tw HT_ HW_) hHeld ?_
      refine tk_ 5 (some 21) (m_ 12 55) rfl rfl (tw HT_ HW_) hHeld ?_
      refine tk_ 6 (some 22) (m_ 12 119) rfl rfl (tw HT_ HW_) hHeld ?_
      refine o1_ 3 (some 19) (m_ 12 127) rfl rfl (oo HT_) (fun K hK => ?_)
      refine gs_ rfl Tryd.func69 (frac_wide_over.calls _ _ _ _ _ _ _ _ A4.out) ag ?_
      intro w26 hb
      replace BK157 := bb BK157 hb
      replace BK158 := bb BK158 hb
      replace BK159 := bb BK159 hb
      replace BK162 := bb BK162 hb
      replace HB := bs HB hb
      (try clear hb)
      refine hK.out _ _ ⟨ct BK157 0, ct BK157 1, ct BK157 2, ct BK162 0, ct BK162 1, ct BK158 0, ct BK158 1, ct BK158 2⟩ (fun hHeld => ?_)
      clear hK K
      refine nr_ (some 19) ?_
      refine pu_ 8 (some 24) (m_ 12 383) rfl rfl (ao HT_) ?_
      refine o1_ 7 (some 23) (m_ 12 511) rfl rfl (oo HT_) (fun K hK => ?_)
      refine gs_ rfl Tryd.func69 (frac_wide_over.calls _ _ _ _ _ _ _ _ A5.out) ag ?_
      intro w27 hb
      replace BK157 := bb BK157 hb
      replace BK158 := bb BK158 hb
      replace BK159 := bb BK159 hb
      replace BK162 := bb BK162 hb
      replace HB := bs HB hb
      (try clear hb)
      refine hK.out _ _ ⟨ct BK157 0, ct BK157 1, ct BK157 2, ct BK162 0, ct BK162 1, ct BK158 0, ct BK158 1, ct BK158 2⟩ (fun hHeld => ?_)
      clear hK K
      refine nr_ (some 23) ?_
      refine last_ (i := 9) (N := none) (m_ 12 1023) rfl rfl (one_of HT_.out (by kernel_rfl)) (by decide) (fun K hK => ?_)
      have hs28 : c_ w27 gb157 1 (.int .u64 a0_1) := ct BK157 1
      have hfs28 := blk_frozen BK157.out 1
      have hns28_1 := NB158_157.out
      have hns28_2 := NB159_157.out
      have hns28_3 := NB162_157.out
      have hms28_1 := NB157_158.out
      have hms28_2 := NB157_159.out
      have hms28_3 := NB157_162.out
      have hs29 : c_ w27 gb157 2 (.int .u64 a0_2) := ct BK157 2
      have hfs29 := blk_frozen BK157.out 2
      have hns29_1 := NB158_157.out
      have hns29_2 := NB159_157.out
      have hns29_3 := NB162_157.out
      have hms29_1 := NB157_158.out
      have hms29_2 := NB157_159.out
      have hms29_3 := NB157_162.out
      refine skip_ (w1 := ?_) (by rfl) rfl ?_ ?_
      rotate_left
      · go_simp
        rfl
      refine hK.out _ _ ?_
      clear hK K
      refine pu_ 10 (some 25) (m_ 12 2047) rfl rfl (ao HT_) ?_
      refine last_ (i := 11) (N := none) (m_ 12 4095) rfl rfl (one_of HT_.out (by kernel_rfl)) (by decide) (fun K hK => ?_)
      have hs30 : c_ w27 gb158 1 (.int .u64 a1_1) := ct BK158 1
      have hfs30 := blk_frozen BK158.out 1
      have hns30_0 := NB157_158.out
      have hns30_2 := NB159_158.out
      have hns30_3 := NB162_158.out
      have hms30_0 := NB158_157.out
      have hms30_2 := NB158_159.out
      have hms30_3 := NB158_162.out
      have hs31 : c_ w27 gb158 2 (.int .u64 a1_2) := ct BK158 2
      have hfs31 := blk_frozen BK158.out 2
      have hns31_0 := NB157_158.out
      have hns31_2 := NB159_158.out
      have hns31_3 := NB162_158.out
      have hms31_0 := NB158_157.out
      have hms31_2 := NB158_159.out
      have hms31_3 := NB158_162.out
      refine skip_ (w1 := ?_) (by rfl) rfl ?_ ?_
      rotate_left
      · go_simp
        rfl
      refine hK.out _ _ ?_
      clear hK K
      refine done_ (done_of HT_.out (by kernel_rfl)) ?_
      have hcz32 := X.k3 BK157
      have hcz33 := X.k3 BK158
      try go_wp2_with (first | ((with_reducible refine gc 70 rfl ?_); refine gm_ (some 35) rfl rfl Tryd.func70 (frac_signed_whole.calls (a0_0 != a1_0) _ _ _ _ _ A6.out) ag ?_; intro w34 hb; replace BK157 := bp_ #[.bool (a0_0 != a1_0), .int .u64 t163, .int .u64 t164] BK157 hb; replace BK158 := bp_ #[.bool false, .int .u64 t165, .int .u64 t166] BK158 hb; replace BK159 := bb BK159 hb; replace HB := bs HB hb; (try clear hb); have hcz35 := X.k3 BK158) | ((with_reducible refine gc 70 rfl ?_); refine gm_ (some 40) rfl rfl Tryd.func70 (frac_signed_whole.calls _ _ _ _ _ _ A7.out) ag ?_; intro w36 hb; replace BK159 := bb BK159 hb; replace HB := bs HB hb; (try clear hb); have hcz37 := X.k2 BK159))
      refine bodyPost_ret (results_ct rfl _ _ gb159 23 #[.int .i64 t167, .int .i64 t169] (0, 0) _ rfl (br_ BK159) Tryd.underlying23 rfl (by kernel_rfl)) rfl ?_
      exact ⟨ae, bf HB⟩
    · replace c9 := Bool.eq_false_iff.mpr c9
      subst c9
      have H1 : (some (0, 0, 2)) = some (r1, r2, r3) := by rw [if_neg (show ¬ (false = true) by decide)] at H; exact H
      clear H
      have H := H1
      clear H1
      simp only [Option.some.injEq, Prod.mk.injEq] at H
      obtain ⟨rfl, rfl, rfl⟩ := H
      go_enter Tryd.func42, Tryd.ntmps42
      try go_wp2_with (first | ((with_reducible refine gd 2 rfl ?_); refine bx_ 2 69 #[.bool a0_0, .int .u64 a0_1, .int .u64 a0_2] rfl rfl ?_; intro gb157 hg w38 BK157 hb; have GE157 := bz HB hg; replace HB := bs HB hb; clear hb hg) | ((with_reducible refine gd 3 rfl ?_); refine bx_ 3 69 #[.bool a1_0, .int .u64 a1_1, .int .u64 a1_2] rfl rfl ?_; intro gb158 hg w39 BK158 hb; have GE158 := bz HB hg; have ⟨NB157_158, NB158_157⟩ := nb BK157 hg; replace BK157 := bb BK157 hb; replace HB := bs HB hb; clear hb hg) | ((with_reducible refine gd 4 rfl ?_); refine bx_ 4 23 #[.int .i64 0, .int .i64 0] rfl rfl ?_; intro gb159 hg w40 BK159 hb; have GE159 := bz HB hg; have ⟨NB157_159, NB159_157⟩ := nb BK157 hg; have ⟨NB158_159, NB159_158⟩ := nb BK158 hg; replace BK157 := bb BK157 hb; replace BK158 := bb BK158 hb; replace HB := bs HB hb; clear hb hg; have hnb41 := nn NB157_158; have hnb42 := nn NB157_159; have hcz43 := X.k3 BK157; have hnb44 := nn NB158_159; have hcz45 := X.k3 BK158) | ((with_reducible refine gc 68 rfl ?_); refine gm_ (some 15) rfl rfl Tryd.func68 (frac_gcd.calls _ _ _ _ _ _ _ _ A3.out (tt GT)) ag ?_; intro w46 hb; replace BK157 := bb BK157 hb; replace BK158 := bb BK158 hb; replace BK159 := bb BK159 hb; replace HB := bs HB hb; (try clear hb)) | ((with_reducible refine gd 6 rfl ?_); refine bx_ 6 67 #[.int .u64 0, .int .u64 0] rfl rfl ?_; intro gb162 hg w47 BK162 hb; have GE162 := bz HB hg; have ⟨NB157_162, NB162_157⟩ := nb BK157 hg; have ⟨NB158_162, NB162_158⟩ := nb BK158 hg; have ⟨NB159_162, NB162_159⟩ := nb BK159 hg; replace BK157 := bb BK157 hb; replace BK158 := bb BK158 hb; replace BK159 := bb BK159 hb; replace HB := bs HB hb; clear hb hg; have hnb48 := nn NB162_157; have hnb49 := nn NB162_158; have hnb50 := nn NB162_159; have hcz51 := X.k2 BK162))
      have n0_ : Aside0 (((w47.setCell ⟨gb162, 0, none⟩ (.int .u64 t160)).setCell ⟨gb162, 1, none⟩ (.int .u64 t161)).heap[gb157]? = some (.cells #[.bool a0_0, .int .u64 a0_1, .int .u64 a0_2] 69 (0, 0))) := bu_ BK157
      have n1_ : Aside0 (((w47.setCell ⟨gb162, 0, none⟩ (.int .u64 t160)).setCell ⟨gb162, 1, none⟩ (.int .u64 t161)).heap[gb158]? = some (.cells #[.bool a1_0, .int .u64 a1_1, .int .u64 a1_2] 69 (0, 0))) := bu_ BK158
      have n2_ : Aside0 (((w47.setCell ⟨gb162, 0, none⟩ (.int .u64 t160)).setCell ⟨gb162, 1, none⟩ (.int .u64 t161)).heap[gb159]? = some (.cells #[.int .i64 0, .int .i64 0] 23 (0, 0))) := bu_ BK159
      have n3_ : Aside0 (((w47.setCell ⟨gb162, 0, none⟩ (.int .u64 t160)).setCell ⟨gb162, 1, none⟩ (.int .u64 t161)).heap[gb162]? = some (.cells #[.int .u64 t160, .int .u64 t161] 67 (0, 0))) := bq_ BK162
      have n4_ : Aside0 (Below w.heap.size w ((w47.setCell ⟨gb162, 0, none⟩ (.int .u64 t160)).setCell ⟨gb162, 1, none⟩ (.int .u64 t161))) := ⟨bf HB⟩
      (try clear BK157); (try clear BK158); (try clear BK159); (try clear BK162); (try clear HB)
      generalize ((w47.setCell ⟨gb162, 0, none⟩ (.int .u64 t160)).setCell ⟨gb162, 1, none⟩ (.int .u64 t161)) = w52 at n0_ n1_ n2_ n3_ n4_ ⊢
      have BK157 := n0_
      have BK158 := n1_
      have BK159 := n2_
      have BK162 := n3_
      have HB := n4_
      clear n0_ n1_ n2_ n3_ n4_
      replace BK157 := Aside0.mk (blk_drew BK157.out)
      replace BK158 := Aside0.mk (blk_drew BK158.out)
      replace BK159 := Aside0.mk (blk_drew BK159.out)
      replace BK162 := Aside0.mk (blk_drew BK162.out)
      replace HB := Aside0.mk (below_drew1 HB.out)
      refine start_ (n := 12) (S := fun w' => c_ w' gb157 0 (.bool a0_0) ∧ c_ w' gb157 1 (.int .u64 a0_1) ∧ c_ w' gb157 2 (.int .u64 a0_2) ∧ c_ w' gb162 0 (.int .u64 t160) ∧ c_ w' gb162 1 (.int .u64 t161) ∧ c_ w' gb158 0 (.bool a1_0) ∧ c_ w' gb158 1 (.int .u64 a1_1) ∧ c_ w' gb158 2 (.int .u64 a1_2)) (ds := [9, 11]) (m_ 12 0) (by kernel_rfl) rfl rfl ⟨ct BK157 0, ct BK157 1, ct BK157 2, ct BK162 0, ct BK162 1, ct BK158 0, ct BK158 1, ct BK158 2⟩ (fun hHeld => ?_); refine with_tabW frac_reduced.tab2 frac_reduced.bits2 (fun HT_ HW_ => ?_)
      generalize w52.drew = w53 at BK157 BK158 BK159 BK162 HB hHeld ⊢
      refine pu_ 0 (some 16) (m_ 12 1) rfl rfl (ao HT_) ?_
      refine pu_ 4 (some 20) (m_ 12 17) rfl rfl (ao HT_) ?_
      refine tk_ 1 (some 17) (m_ 12 19) rfl rfl (tw HT_ HW_) hHeld ?_
      refine tk_ 2 (some 18) (m_ 12 23) rfl rfl (tw HT_ HW_) hHeld ?_
      refine tk_ 5 (some 21) (m_ 12 55) rfl rfl (tw HT_ HW_) hHeld ?_
      refine tk_ 6 (some 22) (m_ 12 119) rfl rfl (tw HT_ HW_) hHeld ?_
      refine o1_ 3 (some 19) (m_ 12 127) rfl rfl (oo HT_) (fun K hK => ?_)
      refine gs_ rfl Tryd.func69 (frac_wide_over.calls _ _ _ _ _ _ _ _ A4.out) ag ?_
      intro w54 hb
      replace BK157 := bb BK157 hb
      replace BK158 := bb BK158 hb
      replace BK159 := bb BK159 hb
      replace BK162 := bb BK162 hb
      replace HB := bs HB hb
      (try clear hb)
      refine hK.out _ _ ⟨ct BK157 0, ct BK157 1, ct BK157 2, ct BK162 0, ct BK162 1, ct BK158 0, ct BK158 1, ct BK158 2⟩ (fun hHeld => ?_)
      clear hK K
      refine nr_ (some 19) ?_
      refine pu_ 8 (some 24) (m_ 12 383) rfl rfl (ao HT_) ?_
      refine o1_ 7 (some 23) (m_ 12 511) rfl rfl (oo HT_) (fun K hK => ?_)
      refine gs_ rfl Tryd.func69 (frac_wide_over.calls _ _ _ _ _ _ _ _ A5.out) ag ?_
      intro w55 hb
      replace BK157 := bb BK157 hb
      replace BK158 := bb BK158 hb
      replace BK159 := bb BK159 hb
      replace BK162 := bb BK162 hb
      replace HB := bs HB hb
      (try clear hb)
      refine hK.out _ _ ⟨ct BK157 0, ct BK157 1, ct BK157 2, ct BK162 0, ct BK162 1, ct BK158 0, ct BK158 1, ct BK158 2⟩ (fun hHeld => ?_)
      clear hK K
      refine nr_ (some 23) ?_
      refine last_ (i := 9) (N := none) (m_ 12 1023) rfl rfl (one_of HT_.out (by kernel_rfl)) (by decide) (fun K hK => ?_)
      have hs56 : c_ w55 gb157 1 (.int .u64 a0_1) := ct BK157 1
      have hfs56 := blk_frozen BK157.out 1
      have hns56_1 := NB158_157.out
      have hns56_2 := NB159_157.out
      have hns56_3 := NB162_157.out
      have hms56_1 := NB157_158.out
      have hms56_2 := NB157_159.out
      have hms56_3 := NB157_162.out
      have hs57 : c_ w55 gb157 2 (.int .u64 a0_2) := ct BK157 2
      have hfs57 := blk_frozen BK157.out 2
      have hns57_1 := NB158_157.out
      have hns57_2 := NB159_157.out
      have hns57_3 := NB162_157.out
      have hms57_1 := NB157_158.out
      have hms57_2 := NB157_159.out
      have hms57_3 := NB157_162.out
      refine skip_ (w1 := ?_) (by rfl) rfl ?_ ?_
      rotate_left
      · go_simp
        rfl
      refine hK.out _ _ ?_
      clear hK K
      refine pu_ 10 (some 25) (m_ 12 2047) rfl rfl (ao HT_) ?_
      refine last_ (i := 11) (N := none) (m_ 12 4095) rfl rfl (one_of HT_.out (by kernel_rfl)) (by decide) (fun K hK => ?_)
      have hs58 : c_ w55 gb158 1 (.int .u64 a1_1) := ct BK158 1
      have hfs58 := blk_frozen BK158.out 1
      have hns58_0 := NB157_158.out
      have hns58_2 := NB159_158.out
      have hns58_3 := NB162_158.out
      have hms58_0 := NB158_157.out
      have hms58_2 := NB158_159.out
      have hms58_3 := NB158_162.out
      have hs59 : c_ w55 gb158 2 (.int .u64 a1_2) := ct BK158 2
      have hfs59 := blk_frozen BK158.out 2
      have hns59_0 := NB157_158.out
      have hns59_2 := NB159_158.out
      have hns59_3 := NB162_158.out
      have hms59_0 := NB158_157.out
      have hms59_2 := NB158_159.out
      have hms59_3 := NB158_162.out
      refine skip_ (w1 := ?_) (by rfl) rfl ?_ ?_
      rotate_left
      · go_simp
        rfl
      refine hK.out _ _ ?_
      clear hK K
      refine done_ (done_of HT_.out (by kernel_rfl)) ?_
      have hcz60 := X.k3 BK157
      have hcz61 := X.k3 BK158
      try go_wp2_with (first | ((with_reducible refine gc 70 rfl ?_); refine gm_ (some 35) rfl rfl Tryd.func70 (frac_signed_whole.calls (a0_0 != a1_0) _ _ _ _ _ A6.out) ag ?_; intro w62 hb; replace BK157 := bp_ #[.bool (a0_0 != a1_0), .int .u64 t163, .int .u64 t164] BK157 hb; replace BK158 := bp_ #[.bool false, .int .u64 t165, .int .u64 t166] BK158 hb; replace BK159 := bb BK159 hb; replace HB := bs HB hb; (try clear hb); have hcz63 := X.k3 BK158) | ((with_reducible refine gc 70 rfl ?_); refine gm_ (some 40) rfl rfl Tryd.func70 (frac_signed_whole.calls _ _ _ _ _ _ A7.out) ag ?_; intro w64 hb; replace BK159 := bb BK159 hb; replace HB := bs HB hb; (try clear hb); have hcz65 := X.k2 BK159))
      refine bodyPost_ret (results_ct rfl _ _ gb159 23 #[.int .i64 0, .int .i64 0] (0, 0) _ rfl (br_ BK159) Tryd.underlying23 rfl (by kernel_rfl)) rfl ?_
      exact ⟨ae, bf HB⟩
  · replace c8 := Bool.eq_false_iff.mpr c8
    subst c8
    have H1 : (some (0, 0, 2)) = some (r1, r2, r3) := by rw [if_neg (show ¬ (false = true) by decide)] at H; exact H
    clear H
    have H := H1
    clear H1
    simp only [Option.some.injEq, Prod.mk.injEq] at H
    obtain ⟨rfl, rfl, rfl⟩ := H
    go_enter Tryd.func42, Tryd.ntmps42
    try go_wp2_with (first | ((with_reducible refine gd 2 rfl ?_); refine bx_ 2 69 #[.bool a0_0, .int .u64 a0_1, .int .u64 a0_2] rfl rfl ?_; intro gb157 hg w66 BK157 hb; have GE157 := bz HB hg; replace HB := bs HB hb; clear hb hg) | ((with_reducible refine gd 3 rfl ?_); refine bx_ 3 69 #[.bool a1_0, .int .u64 a1_1, .int .u64 a1_2] rfl rfl ?_; intro gb158 hg w67 BK158 hb; have GE158 := bz HB hg; have ⟨NB157_158, NB158_157⟩ := nb BK157 hg; replace BK157 := bb BK157 hb; replace HB := bs HB hb; clear hb hg) | ((with_reducible refine gd 4 rfl ?_); refine bx_ 4 23 #[.int .i64 0, .int .i64 0] rfl rfl ?_; intro gb159 hg w68 BK159 hb; have GE159 := bz HB hg; have ⟨NB157_159, NB159_157⟩ := nb BK157 hg; have ⟨NB158_159, NB159_158⟩ := nb BK158 hg; replace BK157 := bb BK157 hb; replace BK158 := bb BK158 hb; replace HB := bs HB hb; clear hb hg; have hnb69 := nn NB157_158; have hnb70 := nn NB157_159; have hcz71 := X.k3 BK157; have hnb72 := nn NB158_159; have hcz73 := X.k3 BK158) | ((with_reducible refine gc 68 rfl ?_); refine gm_ (some 15) rfl rfl Tryd.func68 (frac_gcd.calls _ _ _ _ _ _ _ _ A3.out (tt GT)) ag ?_; intro w74 hb; replace BK157 := bb BK157 hb; replace BK158 := bb BK158 hb; replace BK159 := bb BK159 hb; replace HB := bs HB hb; (try clear hb)) | ((with_reducible refine gd 6 rfl ?_); refine bx_ 6 67 #[.int .u64 0, .int .u64 0] rfl rfl ?_; intro gb162 hg w75 BK162 hb; have GE162 := bz HB hg; have ⟨NB157_162, NB162_157⟩ := nb BK157 hg; have ⟨NB158_162, NB162_158⟩ := nb BK158 hg; have ⟨NB159_162, NB162_159⟩ := nb BK159 hg; replace BK157 := bb BK157 hb; replace BK158 := bb BK158 hb; replace BK159 := bb BK159 hb; replace HB := bs HB hb; clear hb hg; have hnb76 := nn NB162_157; have hnb77 := nn NB162_158; have hnb78 := nn NB162_159; have hcz79 := X.k2 BK162))
    have n0_ : Aside0 (((w75.setCell ⟨gb162, 0, none⟩ (.int .u64 t160)).setCell ⟨gb162, 1, none⟩ (.int .u64 t161)).heap[gb157]? = some (.cells #[.bool a0_0, .int .u64 a0_1, .int .u64 a0_2] 69 (0, 0))) := bu_ BK157
    have n1_ : Aside0 (((w75.setCell ⟨gb162, 0, none⟩ (.int .u64 t160)).setCell ⟨gb162, 1, none⟩ (.int .u64 t161)).heap[gb158]? = some (.cells #[.bool a1_0, .int .u64 a1_1, .int .u64 a1_2] 69 (0, 0))) := bu_ BK158
    have n2_ : Aside0 (((w75.setCell ⟨gb162, 0, none⟩ (.int .u64 t160)).setCell ⟨gb162, 1, none⟩ (.int .u64 t161)).heap[gb159]? = some (.cells #[.int .i64 0, .int .i64 0] 23 (0, 0))) := bu_ BK159
    have n3_ : Aside0 (((w75.setCell ⟨gb162, 0, none⟩ (.int .u64 t160)).setCell ⟨gb162, 1, none⟩ (.int .u64 t161)).heap[gb162]? = some (.cells #[.int .u64 t160, .int .u64 t161] 67 (0, 0))) := bq_ BK162
    have n4_ : Aside0 (Below w.heap.size w ((w75.setCell ⟨gb162, 0, none⟩ (.int .u64 t160)).setCell ⟨gb162, 1, none⟩ (.int .u64 t161))) := ⟨bf HB⟩
    (try clear BK157); (try clear BK158); (try clear BK159); (try clear BK162); (try clear HB)
    generalize ((w75.setCell ⟨gb162, 0, none⟩ (.int .u64 t160)).setCell ⟨gb162, 1, none⟩ (.int .u64 t161)) = w80 at n0_ n1_ n2_ n3_ n4_ ⊢
    have BK157 := n0_
    have BK158 := n1_
    have BK159 := n2_
    have BK162 := n3_
    have HB := n4_
    clear n0_ n1_ n2_ n3_ n4_
    replace BK157 := Aside0.mk (blk_drew BK157.out)
    replace BK158 := Aside0.mk (blk_drew BK158.out)
    replace BK159 := Aside0.mk (blk_drew BK159.out)
    replace BK162 := Aside0.mk (blk_drew BK162.out)
    replace HB := Aside0.mk (below_drew1 HB.out)
    refine start_ (n := 12) (S := fun w' => c_ w' gb157 0 (.bool a0_0) ∧ c_ w' gb157 1 (.int .u64 a0_1) ∧ c_ w' gb157 2 (.int .u64 a0_2) ∧ c_ w' gb162 0 (.int .u64 t160) ∧ c_ w' gb162 1 (.int .u64 t161) ∧ c_ w' gb158 0 (.bool a1_0) ∧ c_ w' gb158 1 (.int .u64 a1_1) ∧ c_ w' gb158 2 (.int .u64 a1_2)) (ds := [9, 11]) (m_ 12 0) (by kernel_rfl) rfl rfl ⟨ct BK157 0, ct BK157 1, ct BK157 2, ct BK162 0, ct BK162 1, ct BK158 0, ct BK158 1, ct BK158 2⟩ (fun hHeld => ?_); refine with_tabW frac_reduced.tab2 frac_reduced.bits2 (fun HT_ HW_ => ?_)
    generalize w80.drew = w81 at BK157 BK158 BK159 BK162 HB hHeld ⊢
    refine pu_ 0 (some 16) (m_ 12 1) rfl rfl (ao HT_) ?_
    refine pu_ 4 (some 20) (m_ 12 17) rfl rfl (ao HT_) ?_
    refine tk_ 1 (some 17) (m_ 12 19) rfl rfl (tw HT_ HW_) hHeld ?_
    refine tk_ 2 (some 18) (m_ 12 23) rfl rfl (tw HT_ HW_) hHeld ?_
    refine tk_ 5 (some 21) (m_ 12 55) rfl rfl (tw HT_ HW_) hHeld ?_
    refine tk_ 6 (some 22) (m_ 12 119) rfl rfl (tw HT_ HW_) hHeld ?_
    refine o1_ 3 (some 19) (m_ 12 127) rfl rfl (oo HT_) (fun K hK => ?_)
    refine gs_ rfl Tryd.func69 (frac_wide_over.calls _ _ _ _ _ _ _ _ A4.out) ag ?_
    intro w82 hb
    replace BK157 := bb BK157 hb
    replace BK158 := bb BK158 hb
    replace BK159 := bb BK159 hb
    replace BK162 := bb BK162 hb
    replace HB := bs HB hb
    (try clear hb)
    refine hK.out _ _ ⟨ct BK157 0, ct BK157 1, ct BK157 2, ct BK162 0, ct BK162 1, ct BK158 0, ct BK158 1, ct BK158 2⟩ (fun hHeld => ?_)
    clear hK K
    refine nr_ (some 19) ?_
    refine pu_ 8 (some 24) (m_ 12 383) rfl rfl (ao HT_) ?_
    refine o1_ 7 (some 23) (m_ 12 511) rfl rfl (oo HT_) (fun K hK => ?_)
    refine gs_ rfl Tryd.func69 (frac_wide_over.calls _ _ _ _ _ _ _ _ A5.out) ag ?_
    intro w83 hb
    replace BK157 := bb BK157 hb
    replace BK158 := bb BK158 hb
    replace BK159 := bb BK159 hb
    replace BK162 := bb BK162 hb
    replace HB := bs HB hb
    (try clear hb)
    refine hK.out _ _ ⟨ct BK157 0, ct BK157 1, ct BK157 2, ct BK162 0, ct BK162 1, ct BK158 0, ct BK158 1, ct BK158 2⟩ (fun hHeld => ?_)
    clear hK K
    refine nr_ (some 23) ?_
    refine last_ (i := 9) (N := none) (m_ 12 1023) rfl rfl (one_of HT_.out (by kernel_rfl)) (by decide) (fun K hK => ?_)
    have hs84 : c_ w83 gb157 1 (.int .u64 a0_1) := ct BK157 1
    have hfs84 := blk_frozen BK157.out 1
    have hns84_1 := NB158_157.out
    have hns84_2 := NB159_157.out
    have hns84_3 := NB162_157.out
    have hms84_1 := NB157_158.out
    have hms84_2 := NB157_159.out
    have hms84_3 := NB157_162.out
    have hs85 : c_ w83 gb157 2 (.int .u64 a0_2) := ct BK157 2
    have hfs85 := blk_frozen BK157.out 2
    have hns85_1 := NB158_157.out
    have hns85_2 := NB159_157.out
    have hns85_3 := NB162_157.out
    have hms85_1 := NB157_158.out
    have hms85_2 := NB157_159.out
    have hms85_3 := NB157_162.out
    refine skip_ (w1 := ?_) (by rfl) rfl ?_ ?_
    rotate_left
    · go_simp
      rfl
    refine hK.out _ _ ?_
    clear hK K
    refine pu_ 10 (some 25) (m_ 12 2047) rfl rfl (ao HT_) ?_
    refine last_ (i := 11) (N := none) (m_ 12 4095) rfl rfl (one_of HT_.out (by kernel_rfl)) (by decide) (fun K hK => ?_)
    have hs86 : c_ w83 gb158 1 (.int .u64 a1_1) := ct BK158 1
    have hfs86 := blk_frozen BK158.out 1
    have hns86_0 := NB157_158.out
    have hns86_2 := NB159_158.out
    have hns86_3 := NB162_158.out
    have hms86_0 := NB158_157.out
    have hms86_2 := NB158_159.out
    have hms86_3 := NB158_162.out
    have hs87 : c_ w83 gb158 2 (.int .u64 a1_2) := ct BK158 2
    have hfs87 := blk_frozen BK158.out 2
    have hns87_0 := NB157_158.out
    have hns87_2 := NB159_158.out
    have hns87_3 := NB162_158.out
    have hms87_0 := NB158_157.out
    have hms87_2 := NB158_159.out
    have hms87_3 := NB158_162.out
    refine skip_ (w1 := ?_) (by rfl) rfl ?_ ?_
    rotate_left
    · go_simp
      rfl
    refine hK.out _ _ ?_
    clear hK K
    refine done_ (done_of HT_.out (by kernel_rfl)) ?_
    have hcz88 := X.k3 BK157
    have hcz89 := X.k3 BK158
    try go_wp2_with (first | ((with_reducible refine gc 70 rfl ?_); refine gm_ (some 35) rfl rfl Tryd.func70 (frac_signed_whole.calls (a0_0 != a1_0) _ _ _ _ _ A6.out) ag ?_; intro w90 hb; replace BK157 := bp_ #[.bool (a0_0 != a1_0), .int .u64 t163, .int .u64 t164] BK157 hb; replace BK158 := bp_ #[.bool false, .int .u64 t165, .int .u64 t166] BK158 hb; replace BK159 := bb BK159 hb; replace HB := bs HB hb; (try clear hb); have hcz91 := X.k3 BK158) | ((with_reducible refine gc 70 rfl ?_); refine gm_ (some 40) rfl rfl Tryd.func70 (frac_signed_whole.calls _ _ _ _ _ _ A7.out) ag ?_; intro w92 hb; replace BK159 := bb BK159 hb; replace HB := bs HB hb; (try clear hb); have hcz93 := X.k2 BK159))
    refine bodyPost_ret (results_ct rfl _ _ gb159 23 #[.int .i64 0, .int .i64 0] (0, 0) _ rfl (br_ BK159) Tryd.underlying23 rfl (by kernel_rfl)) rfl ?_
    exact ⟨ae, bf HB⟩

/-! ### frac_sized: function 43 -/
theorem frac_sized.calls (a0 : Int) (r1 : Bool) (r2 : Int) (r3 : Int) (w : World) (h : frac_sized.f a0 = some (r1, r2, r3)) :
    Calls Tryd.prog 43 #[.int .i64 a0] w fun e w' => e = .returned (.agg #[.bool r1, .int .u64 r2, .int .u64 r3]) ∧ Below w.heap.size w w' := by
  have hu69 := Tryd.underlying69
  have hu67 := Tryd.underlying67
  have HB := Aside0.mk (Below.refl w.heap.size w)
  have H : (if a0 < 0 then (some (true, 0, IntKind.u64.wrap (-(IntKind.u64.wrap (a0))))) else (some (false, 0, IntKind.u64.wrap (a0)))) = some (r1, r2, r3) := h
  clear h
  by_cases c2 : a0 < 0
  · rw [if_pos c2] at H
    have c2b0 : decide (a0 < 0) = true := decide_eq_true c2
    clear c2
    simp only [Option.some.injEq, Prod.mk.injEq] at H
    obtain ⟨rfl, rfl, rfl⟩ := H
    go_enter Tryd.func43, Tryd.ntmps43
    go_wp2_with (first | ((with_reducible refine gd 2 rfl ?_); refine bx_ 2 69 #[.bool false, .int .u64 0, .int .u64 0] rfl rfl ?_; intro gb171 hg w3 BK171 hb; have GE171 := bz HB hg; replace HB := bs HB hb; clear hb hg; have hcz4 := X.k3 BK171))
    refine bodyPost_ret (results_cell_row rfl _ _ gb171 69 #[.bool true, .int .u64 0, .int .u64 (IntKind.u64.wrap (-(IntKind.u64.wrap (a0))))] (0, 0) _ rfl (br_ BK171) Tryd.underlying69 rfl (by kernel_rfl)) rfl ?_
    exact ⟨ae, bf HB⟩
  · rw [if_neg c2] at H
    have c2b0 : decide (a0 < 0) = false := decide_eq_false c2
    clear c2
    simp only [Option.some.injEq, Prod.mk.injEq] at H
    obtain ⟨rfl, rfl, rfl⟩ := H
    go_enter Tryd.func43, Tryd.ntmps43
    go_wp2_with (first | ((with_reducible refine gd 2 rfl ?_); refine bx_ 2 69 #[.bool false, .int .u64 0, .int .u64 0] rfl rfl ?_; intro gb171 hg w5 BK171 hb; have GE171 := bz HB hg; replace HB := bs HB hb; clear hb hg; have hcz6 := X.k3 BK171))
    refine bodyPost_ret (results_cell_row rfl _ _ gb171 69 #[.bool false, .int .u64 0, .int .u64 (IntKind.u64.wrap (a0))] (0, 0) _ rfl (br_ BK171) Tryd.underlying69 rfl (by kernel_rfl)) rfl ?_
    exact ⟨ae, bf HB⟩

/-! ### frac_Of: function 37 -/
theorem frac_Of.calls (k : Nat) (a0 : Int) (a1 : Int) (r1 : Int) (r2 : Int) (r3 : Int) (w : World) (h : frac_Of.f k a0 a1 = some (r1, r2, r3)) (hT : TabOK w) :
    Calls Tryd.prog 37 #[.int .i64 a0, .int .i64 a1] w fun e w' => e = .returned (.tuple #[.agg #[.int .i64 r1, .int .i64 r2], .int .i64 r3]) ∧ Below w.heap.size w w' := by
  have GT := Aside0.mk hT
  clear hT
  have hu23 := Tryd.underlying23
  have HB := Aside0.mk (Below.refl w.heap.size w)
  have H : (if a1 = 0 then (some (0, 0, 3)) else ((frac_sized.f a0).bind fun bt173 => ((frac_sized.f a1).bind fun bt176 => ((frac_reduced.f k bt173.1 bt173.2.1 bt173.2.2 bt176.1 bt176.2.1 bt176.2.2).bind fun bt179 => (some (bt179.1, bt179.2.1, bt179.2.2)))))) = some (r1, r2, r3) := h
  clear h
  by_cases c3 : a1 = 0
  · rw [if_pos c3] at H
    have c3b0 : (a1 == 0) = true := beq_iff_eq.mpr c3
    have c3b1 : (a1 != 0) = false := bne_eq_false_iff_eq.mpr c3
    clear c3
    simp only [Option.some.injEq, Prod.mk.injEq] at H
    obtain ⟨rfl, rfl, rfl⟩ := H
    go_enter Tryd.func37, Tryd.ntmps37
    go_wp2_with (first | ((with_reducible refine gd 4 rfl ?_); refine bx_ 4 23 #[.int .i64 0, .int .i64 0] rfl rfl ?_; intro gb172 hg w4 BK172 hb; have GE172 := bz HB hg; replace HB := bs HB hb; clear hb hg; have hcz5 := X.k2 BK172))
    refine bodyPost_ret (results_ct rfl _ _ gb172 23 #[.int .i64 0, .int .i64 0] (0, 0) _ rfl (br_ BK172) Tryd.underlying23 rfl (by kernel_rfl)) rfl ?_
    exact ⟨ae, bf HB⟩
  · rw [if_neg c3] at H
    have c3b0 : (a1 == 0) = false := beq_eq_false_iff_ne.mpr c3
    have c3b1 : (a1 != 0) = true := bne_iff_ne.mpr c3
    replace H := bi_ H; obtain ⟨⟨t173, t174, t175⟩, A6, H⟩ := H
    (try dsimp only at H)
    replace H := bi_ H; obtain ⟨⟨t176, t177, t178⟩, A7, H⟩ := H
    (try dsimp only at H)
    replace H := bi_ H; obtain ⟨⟨t179, t180, t181⟩, A8, H⟩ := H
    (try dsimp only at H)
    simp only [Option.some.injEq, Prod.mk.injEq] at H
    obtain ⟨rfl, rfl, rfl⟩ := H
    go_enter Tryd.func37, Tryd.ntmps37
    go_wp2_with (first | ((with_reducible refine gd 4 rfl ?_); refine bx_ 4 23 #[.int .i64 0, .int .i64 0] rfl rfl ?_; intro gb172 hg w9 BK172 hb; have GE172 := bz HB hg; replace HB := bs HB hb; clear hb hg) | ((with_reducible refine gc 43 rfl ?_); refine gm_ (some 10) rfl rfl Tryd.func43 (frac_sized.calls _ _ _ _ _ A6.out) ag ?_; intro w10 hb; replace BK172 := bb BK172 hb; replace HB := bs HB hb; (try clear hb)) | ((with_reducible refine gc 43 rfl ?_); refine gm_ (some 12) rfl rfl Tryd.func43 (frac_sized.calls _ _ _ _ _ A7.out) ag ?_; intro w11 hb; replace BK172 := bb BK172 hb; replace HB := bs HB hb; (try clear hb)) | ((with_reducible refine gc 42 rfl ?_); refine gm_ (some 13) rfl rfl Tryd.func42 (frac_reduced.calls _ _ _ _ _ _ _ _ _ _ _ A8.out (tt GT)) ag ?_; intro w12 hb; replace BK172 := bb BK172 hb; replace HB := bs HB hb; (try clear hb); have hcz13 := X.k2 BK172))
    refine bodyPost_ret (results_ct rfl _ _ gb172 23 #[.int .i64 t179, .int .i64 t180] (0, 0) _ rfl (br_ BK172) Tryd.underlying23 rfl (by kernel_rfl)) rfl ?_
    exact ⟨ae, bf HB⟩

/-! ### demand_volume_1: function 36 -/
theorem demand_volume_1.calls (k : Nat) (a0_0 : Int) (a0_1 : Int) (r1 : Int) (r2 : Int) (r3 : Int) (w : World) (h : demand_volume_1.f k a0_0 a0_1 = some (r1, r2, r3)) (hT : TabOK w) :
    Calls Tryd.prog 36 #[.agg #[.int .i64 a0_0, .int .i64 a0_1]] w fun e w' => e = .returned (.tuple #[.agg #[.int .i64 r1, .int .i64 r2], .int .i64 r3]) ∧ Below w.heap.size w w' := by
  have GT := Aside0.mk hT
  clear hT
  have hu23 := Tryd.underlying23
  have HB := Aside0.mk (Below.refl w.heap.size w)
  have H : ((frac_Of.f k a0_0 a0_1).bind fun bt184 => (some (bt184.1, bt184.2.1, bt184.2.2))) = some (r1, r2, r3) := h
  clear h
  replace H := bi_ H; obtain ⟨⟨t184, t185, t186⟩, A2, H⟩ := H
  (try dsimp only at H)
  simp only [Option.some.injEq, Prod.mk.injEq] at H
  obtain ⟨rfl, rfl, rfl⟩ := H
  go_enter Tryd.func36, Tryd.ntmps36
  go_wp2_with (first | ((with_reducible refine gd 1 rfl ?_); refine bx_ 1 23 #[.int .i64 a0_0, .int .i64 a0_1] rfl rfl ?_; intro gb182 hg w3 BK182 hb; have GE182 := bz HB hg; replace HB := bs HB hb; clear hb hg) | ((with_reducible refine gd 2 rfl ?_); refine bx_ 2 23 #[.int .i64 0, .int .i64 0] rfl rfl ?_; intro gb183 hg w4 BK183 hb; have GE183 := bz HB hg; have ⟨NB182_183, NB183_182⟩ := nb BK182 hg; replace BK182 := bb BK182 hb; replace HB := bs HB hb; clear hb hg; have hnb5 := nn NB182_183; have hcz6 := X.k2 BK182) | ((with_reducible refine gc 37 rfl ?_); refine gm_ (some 8) rfl rfl Tryd.func37 (frac_Of.calls _ _ _ _ _ _ _ A2.out (tt GT)) ag ?_; intro w7 hb; replace BK183 := bb BK183 hb; replace HB := bs HB hb; (try clear hb); have hcz8 := X.k2 BK183))
  refine bodyPost_ret (results_ct rfl _ _ gb183 23 #[.int .i64 t184, .int .i64 t185] (0, 0) _ rfl (br_ BK183) Tryd.underlying23 rfl (by kernel_rfl)) rfl ?_
  exact ⟨ae, bf HB⟩

end Go.Proofs.YtcdaedhphdmnoaaDoor.X
