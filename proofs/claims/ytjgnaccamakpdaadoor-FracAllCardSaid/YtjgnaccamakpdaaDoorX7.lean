/- Walks: each '.calls' says that the Go function comes to what its Lean function tells. Conditions: as each theorem's head says. -/
import Derived.Test.YtjgnaccamakpdaaDoorXD
import Derived.Test.YtjgnaccamakpdaaDoorX0
import Derived.Test.YtjgnaccamakpdaaDoorX5
import Derived.Test.YtjgnaccamakpdaaDoorX6
namespace Go.Proofs.YtjgnaccamakpdaaDoor.X
open Go.RowKit Go.Proofs.YtjgnaccamakpdaaDoorW.PrintWords Go.Proofs.YtjgnaccamakpdaaDoorW.PrintLast Go.Proofs.YtjgnaccamakpdaaDoorW.PrintMore
attribute [local go_sem] max2_int min2_int max_two min_two max_three min_three max_four min_four   -- for this text's walks alone
set_option linter.unusedVariables false
set_option maxHeartbeats 8000000
set_option maxRecDepth 100000
set_option linter.unusedSimpArgs false

/-! ### frac_reduced: function 51 -/
def frac_reduced.T2 : Bool × List (List Nat × List Nat) := (true, [([], []), ([0], [0]), ([], []), ([1, 2], [1, 2]), ([], []), ([4], [4]), ([], []), ([5, 6, 3], [5, 6]), ([0, 1, 2, 3], []), ([8, 3, 7, 0, 1, 2, 3], [3, 8]), ([0, 1, 2, 3, 4, 5, 6, 7, 8, 9], []), ([10, 7, 9, 0, 1, 2, 3, 4, 5, 6, 7, 8, 9], [7, 10])])
def frac_reduced.B2 : List Nat := [0, 1, 0, 7, 0, 16, 0, 127, 15, 511, 1023, 2047]
theorem frac_reduced.tab2 : rtab .any (opsOf Tryd.f51 2) = frac_reduced.T2 := by kernel_rfl
theorem frac_reduced.bits2 : waitsOk frac_reduced.T2.2 frac_reduced.B2 = true := by kernel_rfl
theorem frac_reduced.calls (k : Nat) (a0_0 : Bool) (a0_1 : Int) (a0_2 : Int) (a1_0 : Bool) (a1_1 : Int) (a1_2 : Int) (r1 : Int) (r2 : Int) (r3 : Int) (w : World) (h : frac_reduced.f k a0_0 a0_1 a0_2 a1_0 a1_1 a1_2 = some (r1, r2, r3)) (hT : TabOK w) :
    Calls Tryd.prog 51 #[.agg #[.bool a0_0, .int .u64 a0_1, .int .u64 a0_2], .agg #[.bool a1_0, .int .u64 a1_1, .int .u64 a1_2]] w fun e w' => e = .returned (.tuple #[.agg #[.int .i64 r1, .int .i64 r2], .int .i64 r3]) ∧ Below w.heap.size w w' := by
  have GT := Aside0.mk hT
  clear hT
  have hu50 := Tryd.underlying50
  have hu23 := Tryd.underlying23
  have hu48 := Tryd.underlying48
  have HB := Aside0.mk (Below.refl w.heap.size w)
  have H : ((frac_gcd.f k a0_1 a0_2 a1_1 a1_2).bind fun bt162 => ((frac_wide_over.f k a0_1 a0_2 bt162.1 bt162.2).bind fun bt165 => ((frac_wide_over.f k a1_1 a1_2 bt162.1 bt162.2).bind fun bt167 => ((frac_signed_whole.f (a0_0 != a1_0) bt165.1 bt165.2).bind fun bt169 => ((frac_signed_whole.f false bt167.1 bt167.2).bind fun bt171 => (if bt169.2 = true then (if bt171.2 = true then (some (bt169.1, bt171.1, 0)) else (some (0, 0, 2))) else (some (0, 0, 2)))))))) = some (r1, r2, r3) := h
  clear h
  replace H := bi_ H; obtain ⟨⟨t162, t163⟩, A3, H⟩ := H
  (try dsimp only at H)
  replace H := bi_ H; obtain ⟨⟨t165, t166⟩, A4, H⟩ := H
  (try dsimp only at H)
  replace H := bi_ H; obtain ⟨⟨t167, t168⟩, A5, H⟩ := H
  (try dsimp only at H)
  replace H := bi_ H; obtain ⟨⟨t169, t170⟩, A6, H⟩ := H
  (try dsimp only at H)
  replace H := bi_ H; obtain ⟨⟨t171, t172⟩, A7, H⟩ := H
  (try dsimp only at H)
  by_cases c8 : t170 = true
  · subst c8
    have H1 : (if t172 = true then (some (t169, t171, 0)) else (some (0, 0, 2))) = some (r1, r2, r3) := by rw [if_pos rfl] at H; exact H
    clear H
    have H := H1
    clear H1
    by_cases c9 : t172 = true
    · subst c9
      have H1 : (some (t169, t171, 0)) = some (r1, r2, r3) := by rw [if_pos rfl] at H; exact H
      clear H
      have H := H1
      clear H1
      simp only [Option.some.injEq, Prod.mk.injEq] at H
      obtain ⟨rfl, rfl, rfl⟩ := H
      go_enter Tryd.func51, Tryd.ntmps51
      try go_wp2_with (first | ((with_reducible refine gd 2 rfl ?_); refine bx_ 2 50 #[.bool a0_0, .int .u64 a0_1, .int .u64 a0_2] rfl rfl ?_; intro gb159 hg w10 BK159 hb; have GE159 := bz HB hg; replace HB := bs HB hb; clear hb hg) | ((with_reducible refine gd 3 rfl ?_); refine bx_ 3 50 #[.bool a1_0, .int .u64 a1_1, .int .u64 a1_2] rfl rfl ?_; intro gb160 hg w11 BK160 hb; have GE160 := bz HB hg; have ⟨NB159_160, NB160_159⟩ := nb BK159 hg; replace BK159 := bb BK159 hb; replace HB := bs HB hb; clear hb hg) | ((with_reducible refine gd 4 rfl ?_); refine bx_ 4 23 #[.int .i64 0, .int .i64 0] rfl rfl ?_; intro gb161 hg w12 BK161 hb; have GE161 := bz HB hg; have ⟨NB159_161, NB161_159⟩ := nb BK159 hg; have ⟨NB160_161, NB161_160⟩ := nb BK160 hg; replace BK159 := bb BK159 hb; replace BK160 := bb BK160 hb; replace HB := bs HB hb; clear hb hg; have hnb13 := nn NB159_160; have hnb14 := nn NB159_161; have hcz15 := k3 BK159; have hnb16 := nn NB160_161; have hcz17 := k3 BK160) | ((with_reducible refine gc 72 rfl ?_); refine gm_ (some 15) rfl rfl Tryd.func72 (frac_gcd.calls _ _ _ _ _ _ _ _ A3.out (tt GT)) ag ?_; intro w18 hb; replace BK159 := bb BK159 hb; replace BK160 := bb BK160 hb; replace BK161 := bb BK161 hb; replace HB := bs HB hb; (try clear hb)) | ((with_reducible refine gd 6 rfl ?_); refine bx_ 6 48 #[.int .u64 0, .int .u64 0] rfl rfl ?_; intro gb164 hg w19 BK164 hb; have GE164 := bz HB hg; have ⟨NB159_164, NB164_159⟩ := nb BK159 hg; have ⟨NB160_164, NB164_160⟩ := nb BK160 hg; have ⟨NB161_164, NB164_161⟩ := nb BK161 hg; replace BK159 := bb BK159 hb; replace BK160 := bb BK160 hb; replace BK161 := bb BK161 hb; replace HB := bs HB hb; clear hb hg; have hnb20 := nn NB164_159; have hnb21 := nn NB164_160; have hnb22 := nn NB164_161; have hcz23 := k2 BK164))
      have n0_ : Aside0 (((w19.setCell ⟨gb164, 0, none⟩ (.int .u64 t162)).setCell ⟨gb164, 1, none⟩ (.int .u64 t163)).heap[gb159]? = some (.cells #[.bool a0_0, .int .u64 a0_1, .int .u64 a0_2] 50 (0, 0))) := bu_ BK159
      have n1_ : Aside0 (((w19.setCell ⟨gb164, 0, none⟩ (.int .u64 t162)).setCell ⟨gb164, 1, none⟩ (.int .u64 t163)).heap[gb160]? = some (.cells #[.bool a1_0, .int .u64 a1_1, .int .u64 a1_2] 50 (0, 0))) := bu_ BK160
      have n2_ : Aside0 (((w19.setCell ⟨gb164, 0, none⟩ (.int .u64 t162)).setCell ⟨gb164, 1, none⟩ (.int .u64 t163)).heap[gb161]? = some (.cells #[.int .i64 0, .int .i64 0] 23 (0, 0))) := bu_ BK161
      have n3_ : Aside0 (((w19.setCell ⟨gb164, 0, none⟩ (.int .u64 t162)).setCell ⟨gb164, 1, none⟩ (.int .u64 t163)).heap[gb164]? = some (.cells #[.int .u64 t162, .int .u64 t163] 48 (0, 0))) := bq_ BK164
      have n4_ : Aside0 (Below w.heap.size w ((w19.setCell ⟨gb164, 0, none⟩ (.int .u64 t162)).setCell ⟨gb164, 1, none⟩ (.int .u64 t163))) := ⟨bf HB⟩
      (try clear BK159); (try clear BK160); (try clear BK161); (try clear BK164); (try clear HB)
      generalize ((w19.setCell ⟨gb164, 0, none⟩ (.int .u64 t162)).setCell ⟨gb164, 1, none⟩ (.int .u64 t163)) = w24 at n0_ n1_ n2_ n3_ n4_ ⊢
      have BK159 := n0_
      have BK160 := n1_
      have BK161 := n2_
      have BK164 := n3_
      have HB := n4_
      clear n0_ n1_ n2_ n3_ n4_
      replace BK159 := Aside0.mk (blk_drew BK159.out)
      replace BK160 := Aside0.mk (blk_drew BK160.out)
      replace BK161 := Aside0.mk (blk_drew BK161.out)
      replace BK164 := Aside0.mk (blk_drew BK164.out)
      replace HB := Aside0.mk (below_drew1 HB.out)
      refine start_ (n := 12) (S := fun w' => c_ w' gb159 0 (.bool a0_0) ∧ c_ w' gb159 1 (.int .u64 a0_1) ∧ c_ w' gb159 2 (.int .u64 a0_2) ∧ c_ w' gb164 0 (.int .u64 t162) ∧ c_ w' gb164 1 (.int .u64 t163) ∧ c_ w' gb160 0 (.bool a1_0) ∧ c_ w' gb160 1 (.int .u64 a1_1) ∧ c_ w' gb160 2 (.int .u64 a1_2)) (ds := [9, 11]) (m_ 12 0) (by kernel_rfl) rfl rfl ⟨ct BK159 0, ct BK159 1, ct BK159 2, ct BK164 0, ct BK164 1, ct BK160 0, ct BK160 1, ct BK160 2⟩ (fun hHeld => ?_); refine with_tabW frac_reduced.tab2 frac_reduced.bits2 (fun HT_ HW_ => ?_)
      generalize w24.drew = w25 at BK159 BK160 BK161 BK164 HB hHeld ⊢
      refine pu_ 0 (some 16) (m_ 12 1) rfl rfl (ao HT_) ?_
      refine pu_ 4 (some 20) (m_ 12 17) rfl rfl (ao HT_) ?_
      refine tk_ 1 (some 17) (m_ 12 19) rfl rfl (tw HT_ HW_) hHeld ?_
      refine tk_ 2 (some 18) (m_ 12 23) rfl rfl (tw HT_ HW_) hHeld ?_
      refine tk_ 5 (some 21) (m_ 12 55) rfl rfl (tw HT_ HW_) hHeld ?_
      refine tk_ 6 (some 22) (m_ 12 119) rfl rfl (tw HT_ HW_) hHeld ?_
      refine o1_ 3 (some 19) (m_ 12 127) rfl rfl (oo HT_) (fun K hK => ?_)
      refine gs_ rfl Tryd.func73 (frac_wide_over.calls _ _ _ _ _ _ _ _ A4.out) ag ?_
      intro w26 hb
      replace BK159 := bb BK159 hb
      replace BK160 := bb BK160 hb
      replace BK161 := bb BK161 hb
      replace BK164 := bb BK164 hb
      replace HB := bs HB hb
      (try clear hb)
      refine hK.out _ _ ⟨ct BK159 0, ct BK159 1, ct BK159 2, ct BK164 0, ct BK164 1, ct BK160 0, ct BK160 1, ct BK160 2⟩ (fun hHeld => ?_)
      clear hK K
      refine nr_ (some 19) ?_
      refine pu_ 8 (some 24) (m_ 12 383) rfl rfl (ao HT_) ?_
      refine o1_ 7 (some 23) (m_ 12 511) rfl rfl (oo HT_) (fun K hK => ?_)
      refine gs_ rfl Tryd.func73 (frac_wide_over.calls _ _ _ _ _ _ _ _ A5.out) ag ?_
      intro w27 hb
      replace BK159 := bb BK159 hb
      replace BK160 := bb BK160 hb
      replace BK161 := bb BK161 hb
      replace BK164 := bb BK164 hb
      replace HB := bs HB hb
      (try clear hb)
      refine hK.out _ _ ⟨ct BK159 0, ct BK159 1, ct BK159 2, ct BK164 0, ct BK164 1, ct BK160 0, ct BK160 1, ct BK160 2⟩ (fun hHeld => ?_)
      clear hK K
      refine nr_ (some 23) ?_
      refine last_ (i := 9) (N := none) (m_ 12 1023) rfl rfl (one_of HT_.out (by kernel_rfl)) (by decide) (fun K hK => ?_)
      have hs28 : c_ w27 gb159 1 (.int .u64 a0_1) := ct BK159 1
      have hfs28 := blk_frozen BK159.out 1
      have hns28_1 := NB160_159.out
      have hns28_2 := NB161_159.out
      have hns28_3 := NB164_159.out
      have hms28_1 := NB159_160.out
      have hms28_2 := NB159_161.out
      have hms28_3 := NB159_164.out
      have hs29 : c_ w27 gb159 2 (.int .u64 a0_2) := ct BK159 2
      have hfs29 := blk_frozen BK159.out 2
      have hns29_1 := NB160_159.out
      have hns29_2 := NB161_159.out
      have hns29_3 := NB164_159.out
      have hms29_1 := NB159_160.out
      have hms29_2 := NB159_161.out
      have hms29_3 := NB159_164.out
      refine skip_ (w1 := ?_) (by rfl) rfl ?_ ?_
      rotate_left
      · go_simp
        rfl
      refine hK.out _ _ ?_
      clear hK K
      refine pu_ 10 (some 25) (m_ 12 2047) rfl rfl (ao HT_) ?_
      refine last_ (i := 11) (N := none) (m_ 12 4095) rfl rfl (one_of HT_.out (by kernel_rfl)) (by decide) (fun K hK => ?_)
      have hs30 : c_ w27 gb160 1 (.int .u64 a1_1) := ct BK160 1
      have hfs30 := blk_frozen BK160.out 1
      have hns30_0 := NB159_160.out
      have hns30_2 := NB161_160.out
      have hns30_3 := NB164_160.out
      have hms30_0 := NB160_159.out
      have hms30_2 := NB160_161.out
      have hms30_3 := NB160_164.out
      have hs31 : c_ w27 gb160 2 (.int .u64 a1_2) := ct BK160 2
      have hfs31 := blk_frozen BK160.out 2
      have hns31_0 := NB159_160.out
      have hns31_2 := NB161_160.out
      have hns31_3 := NB164_160.out
      have hms31_0 := NB160_159.out
      have hms31_2 := NB160_161.out
      have hms31_3 := NB160_164.out
      refine skip_ (w1 := ?_) (by rfl) rfl ?_ ?_
      rotate_left
      · go_simp
        rfl
      refine hK.out _ _ ?_
      clear hK K
      refine done_ (done_of HT_.out (by kernel_rfl)) ?_
      have hcz32 := k3 BK159
      have hcz33 := k3 BK160
      try go_wp2_with (first | ((with_reducible refine gc 74 rfl ?_); refine gm_ (some 35) rfl rfl Tryd.func74 (frac_signed_whole.calls (a0_0 != a1_0) _ _ _ _ _ A6.out) ag ?_; intro w34 hb; replace BK159 := bp_ #[.bool (a0_0 != a1_0), .int .u64 t165, .int .u64 t166] BK159 hb; replace BK160 := bp_ #[.bool false, .int .u64 t167, .int .u64 t168] BK160 hb; replace BK161 := bb BK161 hb; replace HB := bs HB hb; (try clear hb); have hcz35 := k3 BK160) | ((with_reducible refine gc 74 rfl ?_); refine gm_ (some 40) rfl rfl Tryd.func74 (frac_signed_whole.calls _ _ _ _ _ _ A7.out) ag ?_; intro w36 hb; replace BK161 := bb BK161 hb; replace HB := bs HB hb; (try clear hb); have hcz37 := k2 BK161))
      refine bodyPost_ret (results_ct rfl _ _ gb161 23 #[.int .i64 t169, .int .i64 t171] (0, 0) _ rfl (br_ BK161) Tryd.underlying23 rfl (by kernel_rfl)) rfl ?_
      exact ⟨ae, bf HB⟩
    · replace c9 := Bool.eq_false_iff.mpr c9
      subst c9
      have H1 : (some (0, 0, 2)) = some (r1, r2, r3) := by rw [if_neg (show ¬ (false = true) by decide)] at H; exact H
      clear H
      have H := H1
      clear H1
      simp only [Option.some.injEq, Prod.mk.injEq] at H
      obtain ⟨rfl, rfl, rfl⟩ := H
      go_enter Tryd.func51, Tryd.ntmps51
      try go_wp2_with (first | ((with_reducible refine gd 2 rfl ?_); refine bx_ 2 50 #[.bool a0_0, .int .u64 a0_1, .int .u64 a0_2] rfl rfl ?_; intro gb159 hg w38 BK159 hb; have GE159 := bz HB hg; replace HB := bs HB hb; clear hb hg) | ((with_reducible refine gd 3 rfl ?_); refine bx_ 3 50 #[.bool a1_0, .int .u64 a1_1, .int .u64 a1_2] rfl rfl ?_; intro gb160 hg w39 BK160 hb; have GE160 := bz HB hg; have ⟨NB159_160, NB160_159⟩ := nb BK159 hg; replace BK159 := bb BK159 hb; replace HB := bs HB hb; clear hb hg) | ((with_reducible refine gd 4 rfl ?_); refine bx_ 4 23 #[.int .i64 0, .int .i64 0] rfl rfl ?_; intro gb161 hg w40 BK161 hb; have GE161 := bz HB hg; have ⟨NB159_161, NB161_159⟩ := nb BK159 hg; have ⟨NB160_161, NB161_160⟩ := nb BK160 hg; replace BK159 := bb BK159 hb; replace BK160 := bb BK160 hb; replace HB := bs HB hb; clear hb hg; have hnb41 := nn NB159_160; have hnb42 := nn NB159_161; have hcz43 := k3 BK159; have hnb44 := nn NB160_161; have hcz45 := k3 BK160) | ((with_reducible refine gc 72 rfl ?_); refine gm_ (some 15) rfl rfl Tryd.func72 (frac_gcd.calls _ _ _ _ _ _ _ _ A3.out (tt GT)) ag ?_; intro w46 hb; replace BK159 := bb BK159 hb; replace BK160 := bb BK160 hb; replace BK161 := bb BK161 hb; replace HB := bs HB hb; (try clear hb)) | ((with_reducible refine gd 6 rfl ?_); refine bx_ 6 48 #[.int .u64 0, .int .u64 0] rfl rfl ?_; intro gb164 hg w47 BK164 hb; have GE164 := bz HB hg; have ⟨NB159_164, NB164_159⟩ := nb BK159 hg; have ⟨NB160_164, NB164_160⟩ := nb BK160 hg; have ⟨NB161_164, NB164_161⟩ := nb BK161 hg; replace BK159 := bb BK159 hb; replace BK160 := bb BK160 hb; replace BK161 := bb BK161 hb; replace HB := bs HB hb; clear hb hg; have hnb48 := nn NB164_159; have hnb49 := nn NB164_160; have hnb50 := nn NB164_161; have hcz51 := k2 BK164))
      have n0_ : Aside0 (((w47.setCell ⟨gb164, 0, none⟩ (.int .u64 t162)).setCell ⟨gb164, 1, none⟩ (.int .u64 t163)).heap[gb159]? = some (.cells #[.bool a0_0, .int .u64 a0_1, .int .u64 a0_2] 50 (0, 0))) := bu_ BK159
      have n1_ : Aside0 (((w47.setCell ⟨gb164, 0, none⟩ (.int .u64 t162)).setCell ⟨gb164, 1, none⟩ (.int .u64 t163)).heap[gb160]? = some (.cells #[.bool a1_0, .int .u64 a1_1, .int .u64 a1_2] 50 (0, 0))) := bu_ BK160
      have n2_ : Aside0 (((w47.setCell ⟨gb164, 0, none⟩ (.int .u64 t162)).setCell ⟨gb164, 1, none⟩ (.int .u64 t163)).heap[gb161]? = some (.cells #[.int .i64 0, .int .i64 0] 23 (0, 0))) := bu_ BK161
      have n3_ : Aside0 (((w47.setCell ⟨gb164, 0, none⟩ (.int .u64 t162)).setCell ⟨gb164, 1, none⟩ (.int .u64 t163)).heap[gb164]? = some (.cells #[.int .u64 t162, .int .u64 t163] 48 (0, 0))) := bq_ BK164
      have n4_ : Aside0 (Below w.heap.size w ((w47.setCell ⟨gb164, 0, none⟩ (.int .u64 t162)).setCell ⟨gb164, 1, none⟩ (.int .u64 t163))) := ⟨bf HB⟩
      (try clear BK159); (try clear BK160); (try clear BK161); (try clear BK164); (try clear HB)
      generalize ((w47.setCell ⟨gb164, 0, none⟩ (.int .u64 t162)).setCell ⟨gb164, 1, none⟩ (.int .u64 t163)) = w52 at n0_ n1_ n2_ n3_ n4_ ⊢
      have BK159 := n0_
      have BK160 := n1_
      have BK161 := n2_
      have BK164 := n3_
      have HB := n4_
      clear n0_ n1_ n2_ n3_ n4_
      replace BK159 := Aside0.mk (blk_drew BK159.out)
      replace BK160 := Aside0.mk (blk_drew BK160.out)
      replace BK161 := Aside0.mk (blk_drew BK161.out)
      replace BK164 := Aside0.mk (blk_drew BK164.out)
      replace HB := Aside0.mk (below_drew1 HB.out)
      refine start_ (n := 12) (S := fun w' => c_ w' gb159 0 (.bool a0_0) ∧ c_ w' gb159 1 (.int .u64 a0_1) ∧ c_ w' gb159 2 (.int .u64 a0_2) ∧ c_ w' gb164 0 (.int .u64 t162) ∧ c_ w' gb164 1 (.int .u64 t163) ∧ c_ w' gb160 0 (.bool a1_0) ∧ c_ w' gb160 1 (.int .u64 a1_1) ∧ c_ w' gb160 2 (.int .u64 a1_2)) (ds := [9, 11]) (m_ 12 0) (by kernel_rfl) rfl rfl ⟨ct BK159 0, ct BK159 1, ct BK159 2, ct BK164 0, ct BK164 1, ct BK160 0, ct BK160 1, ct BK160 2⟩ (fun hHeld => ?_); refine with_tabW frac_reduced.tab2 frac_reduced.bits2 (fun HT_ HW_ => ?_)
      generalize w52.drew = w53 at BK159 BK160 BK161 BK164 HB hHeld ⊢
      refine pu_ 0 (some 16) (m_ 12 1) rfl rfl (ao HT_) ?_
      refine pu_ 4 (some 20) (m_ 12 17) rfl rfl (ao HT_) ?_
      refine tk_ 1 (some 17) (m_ 12 19) rfl rfl (tw HT_ HW_) hHeld ?_
      refine tk_ 2 (some 18) (m_ 12 23) rfl rfl (tw HT_ HW_) hHeld ?_
      refine tk_ 5 (some 21) (m_ 12 55) rfl rfl (tw HT_ HW_) hHeld ?_
      refine tk_ 6 (some 22) (m_ 12 119) rfl rfl (tw HT_ HW_) hHeld ?_
      refine o1_ 3 (some 19) (m_ 12 127) rfl rfl (oo HT_) (fun K hK => ?_)
      refine gs_ rfl Tryd.func73 (frac_wide_over.calls _ _ _ _ _ _ _ _ A4.out) ag ?_
      intro w54 hb
      replace BK159 := bb BK159 hb
      replace BK160 := bb BK160 hb
      replace BK161 := bb BK161 hb
      replace BK164 := bb BK164 hb
      replace HB := bs HB hb
      (try clear hb)
      refine hK.out _ _ ⟨ct BK159 0, ct BK159 1, ct BK159 2, ct BK164 0, ct BK164 1, ct BK160 0, ct BK160 1, ct BK160 2⟩ (fun hHeld => ?_)
      clear hK K
      refine nr_ (some 19) ?_
      refine pu_ 8 (some 24) (m_ 12 383) rfl rfl (ao HT_) ?_
      refine o1_ 7 (some 23) (m_ 12 511) rfl rfl (oo HT_) (fun K hK => ?_)
      refine gs_ rfl Tryd.func73 (frac_wide_over.calls _ _ _ _ _ _ _ _ A5.out) ag ?_
      intro w55 hb
      replace BK159 := bb BK159 hb
      replace BK160 := bb BK160 hb
      replace BK161 := bb BK161 hb
      replace BK164 := bb BK164 hb
      replace HB := bs HB hb
      (try clear hb)
      refine hK.out _ _ ⟨ct BK159 0, ct BK159 1, ct BK159 2, ct BK164 0, ct BK164 1, ct BK160 0, ct BK160 1, ct BK160 2⟩ (fun hHeld => ?_)
      clear hK K
      refine nr_ (some 23) ?_
      refine last_ (i := 9) (N := none) (m_ 12 1023) rfl rfl (one_of HT_.out (by kernel_rfl)) (by decide) (fun K hK => ?_)
      have hs56 : c_ w55 gb159 1 (.int .u64 a0_1) := ct BK159 1
      have hfs56 := blk_frozen BK159.out 1
      have hns56_1 := NB160_159.out
      have hns56_2 := NB161_159.out
      have hns56_3 := NB164_159.out
      have hms56_1 := NB159_160.out
      have hms56_2 := NB159_161.out
      have hms56_3 := NB159_164.out
      have hs57 : c_ w55 gb159 2 (.int .u64 a0_2) := ct BK159 2
      have hfs57 := blk_frozen BK159.out 2
      have hns57_1 := NB160_159.out
      have hns57_2 := NB161_159.out
      have hns57_3 := NB164_159.out
      have hms57_1 := NB159_160.out
      have hms57_2 := NB159_161.out
      have hms57_3 := NB159_164.out
      refine skip_ (w1 := ?_) (by rfl) rfl ?_ ?_
      rotate_left
      · go_simp
        rfl
      refine hK.out _ _ ?_
      clear hK K
      refine pu_ 10 (some 25) (m_ 12 2047) rfl rfl (ao HT_) ?_
      refine last_ (i := 11) (N := none) (m_ 12 4095) rfl rfl (one_of HT_.out (by kernel_rfl)) (by decide) (fun K hK => ?_)
      have hs58 : c_ w55 gb160 1 (.int .u64 a1_1) := ct BK160 1
      have hfs58 := blk_frozen BK160.out 1
      have hns58_0 := NB159_160.out
      have hns58_2 := NB161_160.out
      have hns58_3 := NB164_160.out
      have hms58_0 := NB160_159.out
      have hms58_2 := NB160_161.out
      have hms58_3 := NB160_164.out
      have hs59 : c_ w55 gb160 2 (.int .u64 a1_2) := ct BK160 2
      have hfs59 := blk_frozen BK160.out 2
      have hns59_0 := NB159_160.out
      have hns59_2 := NB161_160.out
      have hns59_3 := NB164_160.out
      have hms59_0 := NB160_159.out
      have hms59_2 := NB160_161.out
      have hms59_3 := NB160_164.out
      refine skip_ (w1 := ?_) (by rfl) rfl ?_ ?_
      rotate_left
      · go_simp
        rfl
      refine hK.out _ _ ?_
      clear hK K
      refine done_ (done_of HT_.out (by kernel_rfl)) ?_
      have hcz60 := k3 BK159
      have hcz61 := k3 BK160
      try go_wp2_with (first | ((with_reducible refine gc 74 rfl ?_); refine gm_ (some 35) rfl rfl Tryd.func74 (frac_signed_whole.calls (a0_0 != a1_0) _ _ _ _ _ A6.out) ag ?_; intro w62 hb; replace BK159 := bp_ #[.bool (a0_0 != a1_0), .int .u64 t165, .int .u64 t166] BK159 hb; replace BK160 := bp_ #[.bool false, .int .u64 t167, .int .u64 t168] BK160 hb; replace BK161 := bb BK161 hb; replace HB := bs HB hb; (try clear hb); have hcz63 := k3 BK160) | ((with_reducible refine gc 74 rfl ?_); refine gm_ (some 40) rfl rfl Tryd.func74 (frac_signed_whole.calls _ _ _ _ _ _ A7.out) ag ?_; intro w64 hb; replace BK161 := bb BK161 hb; replace HB := bs HB hb; (try clear hb); have hcz65 := k2 BK161))
      refine bodyPost_ret (results_ct rfl _ _ gb161 23 #[.int .i64 0, .int .i64 0] (0, 0) _ rfl (br_ BK161) Tryd.underlying23 rfl (by kernel_rfl)) rfl ?_
      exact ⟨ae, bf HB⟩
  · replace c8 := Bool.eq_false_iff.mpr c8
    subst c8
    have H1 : (some (0, 0, 2)) = some (r1, r2, r3) := by rw [if_neg (show ¬ (false = true) by decide)] at H; exact H
    clear H
    have H := H1
    clear H1
    simp only [Option.some.injEq, Prod.mk.injEq] at H
    obtain ⟨rfl, rfl, rfl⟩ := H
    go_enter Tryd.func51, Tryd.ntmps51
    try go_wp2_with (first | ((with_reducible refine gd 2 rfl ?_); refine bx_ 2 50 #[.bool a0_0, .int .u64 a0_1, .int .u64 a0_2] rfl rfl ?_; intro gb159 hg w66 BK159 hb; have GE159 := bz HB hg; replace HB := bs HB hb; clear hb hg) | ((with_reducible refine gd 3 rfl ?_); refine bx_ 3 50 #[.bool a1_0, .int .u64 a1_1, .int .u64 a1_2] rfl rfl ?_; intro gb160 hg w67 BK160 hb; have GE160 := bz HB hg; have ⟨NB159_160, NB160_159⟩ := nb BK159 hg; replace BK159 := bb BK159 hb; replace HB := bs HB hb; clear hb hg) | ((with_reducible refine gd 4 rfl ?_); refine bx_ 4 23 #[.int .i64 0, .int .i64 0] rfl rfl ?_; intro gb161 hg w68 BK161 hb; have GE161 := bz HB hg; have ⟨NB159_161, NB161_159⟩ := nb BK159 hg; have ⟨NB160_161, NB161_160⟩ := nb BK160 hg; replace BK159 := bb BK159 hb; replace BK160 := bb BK160 hb; replace HB := bs HB hb; clear hb hg; have hnb69 := nn NB159_160; have hnb70 := nn NB159_161; have hcz71 := k3 BK159; have hnb72 := nn NB160_161; have hcz73 := k3 BK160) | ((with_reducible refine gc 72 rfl ?_); refine gm_ (some 15) rfl rfl Tryd.func72 (frac_gcd.calls _ _ _ _ _ _ _ _ A3.out (tt GT)) ag ?_; intro w74 hb; replace BK159 := bb BK159 hb; replace BK160 := bb BK160 hb; replace BK161 := bb BK161 hb; replace HB := bs HB hb; (try clear hb)) | ((with_reducible refine gd 6 rfl ?_); refine bx_ 6 48 #[.int .u64 0, .int .u64 0] rfl rfl ?_; intro gb164 hg w75 BK164 hb; have GE164 := bz HB hg; have ⟨NB159_164, NB164_159⟩ := nb BK159 hg; have ⟨NB160_164, NB164_160⟩ := nb BK160 hg; have ⟨NB161_164, NB164_161⟩ := nb BK161 hg; replace BK159 := bb BK159 hb; replace BK160 := bb BK160 hb; replace BK161 := bb BK161 hb; replace HB := bs HB hb; clear hb hg; have hnb76 := nn NB164_159; have hnb77 := nn NB164_160; have hnb78 := nn NB164_161; have hcz79 := k2 BK164))
    have n0_ : Aside0 (((w75.setCell ⟨gb164, 0, none⟩ (.int .u64 t162)).setCell ⟨gb164, 1, none⟩ (.int .u64 t163)).heap[gb159]? = some (.cells #[.bool a0_0, .int .u64 a0_1, .int .u64 a0_2] 50 (0, 0))) := bu_ BK159
    have n1_ : Aside0 (((w75.setCell ⟨gb164, 0, none⟩ (.int .u64 t162)).setCell ⟨gb164, 1, none⟩ (.int .u64 t163)).heap[gb160]? = some (.cells #[.bool a1_0, .int .u64 a1_1, .int .u64 a1_2] 50 (0, 0))) := bu_ BK160
    have n2_ : Aside0 (((w75.setCell ⟨gb164, 0, none⟩ (.int .u64 t162)).setCell ⟨gb164, 1, none⟩ (.int .u64 t163)).heap[gb161]? = some (.cells #[.int .i64 0, .int .i64 0] 23 (0, 0))) := bu_ BK161
    have n3_ : Aside0 (((w75.setCell ⟨gb164, 0, none⟩ (.int .u64 t162)).setCell ⟨gb164, 1, none⟩ (.int .u64 t163)).heap[gb164]? = some (.cells #[.int .u64 t162, .int .u64 t163] 48 (0, 0))) := bq_ BK164
    have n4_ : Aside0 (Below w.heap.size w ((w75.setCell ⟨gb164, 0, none⟩ (.int .u64 t162)).setCell ⟨gb164, 1, none⟩ (.int .u64 t163))) := ⟨bf HB⟩
    (try clear BK159); (try clear BK160); (try clear BK161); (try clear BK164); (try clear HB)
    generalize ((w75.setCell ⟨gb164, 0, none⟩ (.int .u64 t162)).setCell ⟨gb164, 1, none⟩ (.int .u64 t163)) = w80 at n0_ n1_ n2_ n3_ n4_ ⊢
    have BK159 := n0_
    have BK160 := n1_
    have BK161 := n2_
    have BK164 := n3_
    have HB := n4_
    clear n0_ n1_ n2_ n3_ n4_
    replace BK159 := Aside0.mk (blk_drew BK159.out)
    replace BK160 := Aside0.mk (blk_drew BK160.out)
    replace BK161 := Aside0.mk (blk_drew BK161.out)
    replace BK164 := Aside0.mk (blk_drew BK164.out)
    replace HB := Aside0.mk (below_drew1 HB.out)
    refine start_ (n := 12) (S := fun w' => c_ w' gb159 0 (.bool a0_0) ∧ c_ w' gb159 1 (.int .u64 a0_1) ∧ c_ w' gb159 2 (.int .u64 a0_2) ∧ c_ w' gb164 0 (.int .u64 t162) ∧ c_ w' gb164 1 (.int .u64 t163) ∧ c_ w' gb160 0 (.bool a1_0) ∧ c_ w' gb160 1 (.int .u64 a1_1) ∧ c_ w' gb160 2 (.int .u64 a1_2)) (ds := [9, 11]) (m_ 12 0) (by kernel_rfl) rfl rfl ⟨ct BK159 0, ct BK159 1, ct BK159 2, ct BK164 0, ct BK164 1, ct BK160 0, ct BK160 1, ct BK160 2⟩ (fun hHeld => ?_); refine with_tabW frac_reduced.tab2 frac_reduced.bits2 (fun HT_ HW_ => ?_)
    generalize w80.drew = w81 at BK159 BK160 BK161 BK164 HB hHeld ⊢
    refine pu_ 0 (some 16) (m_ 12 1) rfl rfl (ao HT_) ?_
    refine pu_ 4 (some 20) (m_ 12 17) rfl rfl (ao HT_) ?_
    refine tk_ 1 (some 17) (m_ 12 19) rfl rfl (tw HT_ HW_) hHeld ?_
    refine tk_ 2 (some 18) (m_ 12 23) rfl rfl (tw HT_ HW_) hHeld ?_
    refine tk_ 5 (some 21) (m_ 12 55) rfl rfl (tw HT_ HW_) hHeld ?_
    refine tk_ 6 (some 22) (m_ 12 119) rfl rfl (tw HT_ HW_) hHeld ?_
    refine o1_ 3 (some 19) (m_ 12 127) rfl rfl (oo HT_) (fun K hK => ?_)
    refine gs_ rfl Tryd.func73 (frac_wide_over.calls _ _ _ _ _ _ _ _ A4.out) ag ?_
    intro w82 hb
    replace BK159 := bb BK159 hb
    replace BK160 := bb BK160 hb
    replace BK161 := bb BK161 hb
    replace BK164 := bb BK164 hb
    replace HB := bs HB hb
    (try clear hb)
    refine hK.out _ _ ⟨ct BK159 0, ct BK159 1, ct BK159 2, ct BK164 0, ct BK164 1, ct BK160 0, ct BK160 1, ct BK160 2⟩ (fun hHeld => ?_)
    clear hK K
    refine nr_ (some 19) ?_
    refine pu_ 8 (some 24) (m_ 12 383) rfl rfl (ao HT_) ?_
    refine o1_ 7 (some 23) (m_ 12 511) rfl rfl (oo HT_) (fun K hK => ?_)
    refine gs_ rfl Tryd.func73 (frac_wide_over.calls _ _ _ _ _ _ _ _ A5.out) ag ?_
    intro w83 hb
    replace BK159 := bb BK159 hb
    replace BK160 := bb BK160 hb
    replace BK161 := bb BK161 hb
    replace BK164 := bb BK164 hb
    replace HB := bs HB hb
    (try clear hb)
    refine hK.out _ _ ⟨ct BK159 0, ct BK159 1, ct BK159 2, ct BK164 0, ct BK164 1, ct BK160 0, ct BK160 1, ct BK160 2⟩ (fun hHeld => ?_)
    clear hK K
    refine nr_ (some 23) ?_
    refine last_ (i := 9) (N := none) (m_ 12 1023) rfl rfl (one_of HT_.out (by kernel_rfl)) (by decide) (fun K hK => ?_)
    have hs84 : c_ w83 gb159 1 (.int .u64 a0_1) := ct BK159 1
    have hfs84 := blk_frozen BK159.out 1
    have hns84_1 := NB160_159.out
    have hns84_2 := NB161_159.out
    have hns84_3 := NB164_159.out
    have hms84_1 := NB159_160.out
    have hms84_2 := NB159_161.out
    have hms84_3 := NB159_164.out
    have hs85 : c_ w83 gb159 2 (.int .u64 a0_2) := ct BK159 2
    have hfs85 := blk_frozen BK159.out 2
    have hns85_1 := NB160_159.out
    have hns85_2 := NB161_159.out
    have hns85_3 := NB164_159.out
    have hms85_1 := NB159_160.out
    have hms85_2 := NB159_161.out
    have hms85_3 := NB159_164.out
    refine skip_ (w1 := ?_) (by rfl) rfl ?_ ?_
    rotate_left
    · go_simp
      rfl
    refine hK.out _ _ ?_
    clear hK K
    refine pu_ 10 (some 25) (m_ 12 2047) rfl rfl (ao HT_) ?_
    refine last_ (i := 11) (N := none) (m_ 12 4095) rfl rfl (one_of HT_.out (by kernel_rfl)) (by decide) (fun K hK => ?_)
    have hs86 : c_ w83 gb160 1 (.int .u64 a1_1) := ct BK160 1
    have hfs86 := blk_frozen BK160.out 1
    have hns86_0 := NB159_160.out
    have hns86_2 := NB161_160.out
    have hns86_3 := NB164_160.out
    have hms86_0 := NB160_159.out
    have hms86_2 := NB160_161.out
    have hms86_3 := NB160_164.out
    have hs87 : c_ w83 gb160 2 (.int .u64 a1_2) := ct BK160 2
    have hfs87 := blk_frozen BK160.out 2
    have hns87_0 := NB159_160.out
    have hns87_2 := NB161_160.out
    have hns87_3 := NB164_160.out
    have hms87_0 := NB160_159.out
    have hms87_2 := NB160_161.out
    have hms87_3 := NB160_164.out
    refine skip_ (w1 := ?_) (by rfl) rfl ?_ ?_
    rotate_left
    · go_simp
      rfl
    refine hK.out _ _ ?_
    clear hK K
    refine done_ (done_of HT_.out (by kernel_rfl)) ?_
    have hcz88 := k3 BK159
    have hcz89 := k3 BK160
    try go_wp2_with (first | ((with_reducible refine gc 74 rfl ?_); refine gm_ (some 35) rfl rfl Tryd.func74 (frac_signed_whole.calls (a0_0 != a1_0) _ _ _ _ _ A6.out) ag ?_; intro w90 hb; replace BK159 := bp_ #[.bool (a0_0 != a1_0), .int .u64 t165, .int .u64 t166] BK159 hb; replace BK160 := bp_ #[.bool false, .int .u64 t167, .int .u64 t168] BK160 hb; replace BK161 := bb BK161 hb; replace HB := bs HB hb; (try clear hb); have hcz91 := k3 BK160) | ((with_reducible refine gc 74 rfl ?_); refine gm_ (some 40) rfl rfl Tryd.func74 (frac_signed_whole.calls _ _ _ _ _ _ A7.out) ag ?_; intro w92 hb; replace BK161 := bb BK161 hb; replace HB := bs HB hb; (try clear hb); have hcz93 := k2 BK161))
    refine bodyPost_ret (results_ct rfl _ _ gb161 23 #[.int .i64 0, .int .i64 0] (0, 0) _ rfl (br_ BK161) Tryd.underlying23 rfl (by kernel_rfl)) rfl ?_
    exact ⟨ae, bf HB⟩

/-! ### frac_sized: function 52 -/
theorem frac_sized.calls (a0 : Int) (r1 : Bool) (r2 : Int) (r3 : Int) (w : World) (h : frac_sized.f a0 = some (r1, r2, r3)) :
    Calls Tryd.prog 52 #[.int .i64 a0] w fun e w' => e = .returned (.agg #[.bool r1, .int .u64 r2, .int .u64 r3]) ∧ Below w.heap.size w w' := by
  have hu50 := Tryd.underlying50
  have hu48 := Tryd.underlying48
  have HB := Aside0.mk (Below.refl w.heap.size w)
  have H : (if a0 < 0 then (some (true, 0, IntKind.u64.wrap (-(IntKind.u64.wrap (a0))))) else (some (false, 0, IntKind.u64.wrap (a0)))) = some (r1, r2, r3) := h
  clear h
  by_cases c2 : a0 < 0
  · rw [if_pos c2] at H
    have c2b0 : decide (a0 < 0) = true := decide_eq_true c2
    clear c2
    simp only [Option.some.injEq, Prod.mk.injEq] at H
    obtain ⟨rfl, rfl, rfl⟩ := H
    go_enter Tryd.func52, Tryd.ntmps52
    go_wp2_with (first | ((with_reducible refine gd 2 rfl ?_); refine bx_ 2 50 #[.bool false, .int .u64 0, .int .u64 0] rfl rfl ?_; intro gb173 hg w3 BK173 hb; have GE173 := bz HB hg; replace HB := bs HB hb; clear hb hg; have hcz4 := k3 BK173))
    refine bodyPost_ret (results_cell_row rfl _ _ gb173 50 #[.bool true, .int .u64 0, .int .u64 (IntKind.u64.wrap (-(IntKind.u64.wrap (a0))))] (0, 0) _ rfl (br_ BK173) Tryd.underlying50 rfl (by kernel_rfl)) rfl ?_
    exact ⟨ae, bf HB⟩
  · rw [if_neg c2] at H
    have c2b0 : decide (a0 < 0) = false := decide_eq_false c2
    clear c2
    simp only [Option.some.injEq, Prod.mk.injEq] at H
    obtain ⟨rfl, rfl, rfl⟩ := H
    go_enter Tryd.func52, Tryd.ntmps52
    go_wp2_with (first | ((with_reducible refine gd 2 rfl ?_); refine bx_ 2 50 #[.bool false, .int .u64 0, .int .u64 0] rfl rfl ?_; intro gb173 hg w5 BK173 hb; have GE173 := bz HB hg; replace HB := bs HB hb; clear hb hg; have hcz6 := k3 BK173))
    refine bodyPost_ret (results_cell_row rfl _ _ gb173 50 #[.bool false, .int .u64 0, .int .u64 (IntKind.u64.wrap (a0))] (0, 0) _ rfl (br_ BK173) Tryd.underlying50 rfl (by kernel_rfl)) rfl ?_
    exact ⟨ae, bf HB⟩

end Go.Proofs.YtjgnaccamakpdaaDoor.X
