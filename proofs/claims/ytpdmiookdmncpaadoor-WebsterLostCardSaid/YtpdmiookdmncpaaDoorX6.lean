/- Walks: each '.calls' says that the Go function comes to what its Lean function tells. Conditions: as each theorem's head says. -/
import Derived.Test.YtpdmiookdmncpaaDoorXD
import Derived.Test.YtpdmiookdmncpaaDoorX0
import Derived.Test.YtpdmiookdmncpaaDoorX4
import Derived.Test.YtpdmiookdmncpaaDoorX5
namespace Go.Proofs.YtpdmiookdmncpaaDoor.X
open Go.RowKit Go.Proofs.YtpdmiookdmncpaaDoorW.PrintWords Go.Proofs.YtpdmiookdmncpaaDoorW.PrintLast Go.Proofs.YtpdmiookdmncpaaDoorW.PrintMore
attribute [local go_sem] max2_int min2_int max_two min_two max_three min_three max_four min_four   -- for this text's walks alone
set_option linter.unusedVariables false
set_option maxHeartbeats 8000000
set_option maxRecDepth 100000
set_option linter.unusedSimpArgs false

/-! ### frac_reduced: function 64 -/
def frac_reduced.T2 : Bool × List (List Nat × List Nat) := (true, [([], []), ([0], [0]), ([], []), ([1, 2], [1, 2]), ([], []), ([4], [4]), ([], []), ([5, 6, 3], [5, 6]), ([0, 1, 2, 3], []), ([8, 3, 7, 0, 1, 2, 3], [3, 8]), ([0, 1, 2, 3, 4, 5, 6, 7, 8, 9], []), ([10, 7, 9, 0, 1, 2, 3, 4, 5, 6, 7, 8, 9], [7, 10])])
def frac_reduced.B2 : List Nat := [0, 1, 0, 7, 0, 16, 0, 127, 15, 511, 1023, 2047]
theorem frac_reduced.tab2 : rtab .any (opsOf Tryd.f64 2) = frac_reduced.T2 := by kernel_rfl
theorem frac_reduced.bits2 : waitsOk frac_reduced.T2.2 frac_reduced.B2 = true := by kernel_rfl
theorem frac_reduced.calls (k : Nat) (a0_0 : Bool) (a0_1 : Int) (a0_2 : Int) (a1_0 : Bool) (a1_1 : Int) (a1_2 : Int) (r1 : Int) (r2 : Int) (r3 : Int) (w : World) (h : frac_reduced.f k a0_0 a0_1 a0_2 a1_0 a1_1 a1_2 = some (r1, r2, r3)) (hT : TabOK w) :
    Calls Tryd.prog 64 #[.agg #[.bool a0_0, .int .u64 a0_1, .int .u64 a0_2], .agg #[.bool a1_0, .int .u64 a1_1, .int .u64 a1_2]] w fun e w' => e = .returned (.tuple #[.agg #[.int .i64 r1, .int .i64 r2], .int .i64 r3]) ∧ Below w.heap.size w w' := by
  have GT := Aside0.mk hT
  clear hT
  have hu106 := Tryd.underlying106
  have hu23 := Tryd.underlying23
  have hu104 := Tryd.underlying104
  have HB := Aside0.mk (Below.refl w.heap.size w)
  have H : ((frac_gcd.f k a0_1 a0_2 a1_1 a1_2).bind fun bt171 => ((frac_wide_over.f k a0_1 a0_2 bt171.1 bt171.2).bind fun bt174 => ((frac_wide_over.f k a1_1 a1_2 bt171.1 bt171.2).bind fun bt176 => ((frac_signed_whole.f (a0_0 != a1_0) bt174.1 bt174.2).bind fun bt178 => ((frac_signed_whole.f false bt176.1 bt176.2).bind fun bt180 => (if bt178.2 = true then (if bt180.2 = true then (some (bt178.1, bt180.1, 0)) else (some (0, 0, 2))) else (some (0, 0, 2)))))))) = some (r1, r2, r3) := h
  clear h
  replace H := bi_ H; obtain ⟨⟨t171, t172⟩, A3, H⟩ := H
  (try dsimp only at H)
  replace H := bi_ H; obtain ⟨⟨t174, t175⟩, A4, H⟩ := H
  (try dsimp only at H)
  replace H := bi_ H; obtain ⟨⟨t176, t177⟩, A5, H⟩ := H
  (try dsimp only at H)
  replace H := bi_ H; obtain ⟨⟨t178, t179⟩, A6, H⟩ := H
  (try dsimp only at H)
  replace H := bi_ H; obtain ⟨⟨t180, t181⟩, A7, H⟩ := H
  (try dsimp only at H)
  by_cases c8 : t179 = true
  · subst c8
    have H1 : (if t181 = true then (some (t178, t180, 0)) else (some (0, 0, 2))) = some (r1, r2, r3) := by rw [if_pos rfl] at H; exact H
    clear H
    have H := H1
    clear H1
    by_cases c9 : t181 = true
    · subst c9
      have H1 : (some (t178, t180, 0)) = some (r1, r2, r3) := by rw [if_pos rfl] at H; exact H
      clear H
      have H := H1
      clear H1
      simp only [Option.some.injEq, Prod.mk.injEq] at H
      obtain ⟨rfl, rfl, rfl⟩ := H
      go_enter Tryd.func64, Tryd.ntmps64
      try go_wp2_with (first | ((with_reducible refine gd 2 rfl ?_); refine bx_ 2 106 #[.bool a0_0, .int .u64 a0_1, .int .u64 a0_2] rfl rfl ?_; intro gb168 hg w10 BK168 hb; have GE168 := bz HB hg; replace HB := bs HB hb; clear hb hg) | ((with_reducible refine gd 3 rfl ?_); refine bx_ 3 106 #[.bool a1_0, .int .u64 a1_1, .int .u64 a1_2] rfl rfl ?_; intro gb169 hg w11 BK169 hb; have GE169 := bz HB hg; have ⟨NB168_169, NB169_168⟩ := nb BK168 hg; replace BK168 := bb BK168 hb; replace HB := bs HB hb; clear hb hg) | ((with_reducible refine gd 4 rfl ?_); refine bx_ 4 23 #[.int .i64 0, .int .i64 0] rfl rfl ?_; intro gb170 hg w12 BK170 hb; have GE170 := bz HB hg; have ⟨NB168_170, NB170_168⟩ := nb BK168 hg; have ⟨NB169_170, NB170_169⟩ := nb BK169 hg; replace BK168 := bb BK168 hb; replace BK169 := bb BK169 hb; replace HB := bs HB hb; clear hb hg; have hnb13 := nn NB168_169; have hnb14 := nn NB168_170; have hcz15 := k3 BK168; have hnb16 := nn NB169_170; have hcz17 := k3 BK169) | ((with_reducible refine gc 87 rfl ?_); refine gm_ (some 15) rfl rfl Tryd.func87 (frac_gcd.calls _ _ _ _ _ _ _ _ A3.out (tt GT)) ag ?_; intro w18 hb; replace BK168 := bb BK168 hb; replace BK169 := bb BK169 hb; replace BK170 := bb BK170 hb; replace HB := bs HB hb; (try clear hb)) | ((with_reducible refine gd 6 rfl ?_); refine bx_ 6 104 #[.int .u64 0, .int .u64 0] rfl rfl ?_; intro gb173 hg w19 BK173 hb; have GE173 := bz HB hg; have ⟨NB168_173, NB173_168⟩ := nb BK168 hg; have ⟨NB169_173, NB173_169⟩ := nb BK169 hg; have ⟨NB170_173, NB173_170⟩ := nb BK170 hg; replace BK168 := bb BK168 hb; replace BK169 := bb BK169 hb; replace BK170 := bb BK170 hb; replace HB := bs HB hb; clear hb hg; have hnb20 := nn NB173_168; have hnb21 := nn NB173_169; have hnb22 := nn NB173_170; have hcz23 := k2 BK173))
      have n0_ : Aside0 (((w19.setCell ⟨gb173, 0, none⟩ (.int .u64 t171)).setCell ⟨gb173, 1, none⟩ (.int .u64 t172)).heap[gb168]? = some (.cells #[.bool a0_0, .int .u64 a0_1, .int .u64 a0_2] 106 (0, 0))) := bu_ BK168
      have n1_ : Aside0 (((w19.setCell ⟨gb173, 0, none⟩ (.int .u64 t171)).setCell ⟨gb173, 1, none⟩ (.int .u64 t172)).heap[gb169]? = some (.cells #[.bool a1_0, .int .u64 a1_1, .int .u64 a1_2] 106 (0, 0))) := bu_ BK169
      have n2_ : Aside0 (((w19.setCell ⟨gb173, 0, none⟩ (.int .u64 t171)).setCell ⟨gb173, 1, none⟩ (.int .u64 t172)).heap[gb170]? = some (.cells #[.int .i64 0, .int .i64 0] 23 (0, 0))) := bu_ BK170
      have n3_ : Aside0 (((w19.setCell ⟨gb173, 0, none⟩ (.int .u64 t171)).setCell ⟨gb173, 1, none⟩ (.int .u64 t172)).heap[gb173]? = some (.cells #[.int .u64 t171, .int .u64 t172] 104 (0, 0))) := bq_ BK173
      have n4_ : Aside0 (Below w.heap.size w ((w19.setCell ⟨gb173, 0, none⟩ (.int .u64 t171)).setCell ⟨gb173, 1, none⟩ (.int .u64 t172))) := ⟨bf HB⟩
      (try clear BK168); (try clear BK169); (try clear BK170); (try clear BK173); (try clear HB)
      generalize ((w19.setCell ⟨gb173, 0, none⟩ (.int .u64 t171)).setCell ⟨gb173, 1, none⟩ (.int .u64 t172)) = w24 at n0_ n1_ n2_ n3_ n4_ ⊢
      have BK168 := n0_
      have BK169 := n1_
      have BK170 := n2_
      have BK173 := n3_
      have HB := n4_
      clear n0_ n1_ n2_ n3_ n4_
      replace BK168 := Aside0.mk (blk_drew BK168.out)
      replace BK169 := Aside0.mk (blk_drew BK169.out)
      replace BK170 := Aside0.mk (blk_drew BK170.out)
      replace BK173 := Aside0.mk (blk_drew BK173.out)
      replace HB := Aside0.mk (below_drew1 HB.out)
      refine start_ (n := 12) (S := fun w' => c_ w' gb168 0 (.bool a0_0) ∧ c_ w' gb168 1 (.int .u64 a0_1) ∧ c_ w' gb168 2 (.int .u64 a0_2) ∧ c_ w' gb173 0 (.int .u64 t171) ∧ c_ w' gb173 1 (.int .u64 t172) ∧ c_ w' gb169 0 (.bool a1_0) ∧ c_ w' gb169 1 (.int .u64 a1_1) ∧ c_ w' gb169 2 (.int .u64 a1_2)) (ds := [9, 11]) (m_ 12 0) (by kernel_rfl) rfl rfl ⟨ct BK168 0, ct BK168 1, ct BK168 2, ct BK173 0, ct BK173 1, ct BK169 0, ct BK169 1, ct BK169 2⟩ (fun hHeld => ?_); refine with_tabW frac_reduced.tab2 frac_reduced.bits2 (fun HT_ HW_ => ?_)
      generalize w24.drew = w25 at BK168 BK169 BK170 BK173 HB hHeld ⊢
      refine pu_ 0 (some 16) (m_ 12 1) rfl rfl (ao HT_) ?_
      refine pu_ 4 (some 20) (m_ 12 17) rfl rfl (ao HT_) ?_
      refine tk_ 1 (some 17) (m_ 12 19) rfl rfl (tw HT_ HW_) hHeld ?_
      refine tk_ 2 (some 18) (m_ 12 23) rfl rfl (tw HT_ HW_) hHeld ?_
      refine tk_ 5 (some 21) (m_ 12 55) rfl rfl (tw HT_ HW_) hHeld ?_
      refine tk_ 6 (some 22) (m_ 12 119) rfl rfl (tw HT_ HW_) hHeld ?_
      refine o1_ 3 (some 19) (m_ 12 127) rfl rfl (oo HT_) (fun K hK => ?_)
      refine gs_ rfl Tryd.func88 (frac_wide_over.calls _ _ _ _ _ _ _ _ A4.out) ag ?_
      intro w26 hb
      replace BK168 := bb BK168 hb
      replace BK169 := bb BK169 hb
      replace BK170 := bb BK170 hb
      replace BK173 := bb BK173 hb
      replace HB := bs HB hb
      (try clear hb)
      refine hK.out _ _ ⟨ct BK168 0, ct BK168 1, ct BK168 2, ct BK173 0, ct BK173 1, ct BK169 0, ct BK169 1, ct BK169 2⟩ (fun hHeld => ?_)
      clear hK K
      refine nr_ (some 19) ?_
      refine pu_ 8 (some 24) (m_ 12 383) rfl rfl (ao HT_) ?_
      refine o1_ 7 (some 23) (m_ 12 511) rfl rfl (oo HT_) (fun K hK => ?_)
      refine gs_ rfl Tryd.func88 (frac_wide_over.calls _ _ _ _ _ _ _ _ A5.out) ag ?_
      intro w27 hb
      replace BK168 := bb BK168 hb
      replace BK169 := bb BK169 hb
      replace BK170 := bb BK170 hb
      replace BK173 := bb BK173 hb
      replace HB := bs HB hb
      (try clear hb)
      refine hK.out _ _ ⟨ct BK168 0, ct BK168 1, ct BK168 2, ct BK173 0, ct BK173 1, ct BK169 0, ct BK169 1, ct BK169 2⟩ (fun hHeld => ?_)
      clear hK K
      refine nr_ (some 23) ?_
      refine last_ (i := 9) (N := none) (m_ 12 1023) rfl rfl (one_of HT_.out (by kernel_rfl)) (by decide) (fun K hK => ?_)
      have hs28 : c_ w27 gb168 1 (.int .u64 a0_1) := ct BK168 1
      have hfs28 := blk_frozen BK168.out 1
      have hns28_1 := NB169_168.out
      have hns28_2 := NB170_168.out
      have hns28_3 := NB173_168.out
      have hms28_1 := NB168_169.out
      have hms28_2 := NB168_170.out
      have hms28_3 := NB168_173.out
      have hs29 : c_ w27 gb168 2 (.int .u64 a0_2) := ct BK168 2
      have hfs29 := blk_frozen BK168.out 2
      have hns29_1 := NB169_168.out
      have hns29_2 := NB170_168.out
      have hns29_3 := NB173_168.out
      have hms29_1 := NB168_169.out
      have hms29_2 := NB168_170.out
      have hms29_3 := NB168_173.out
      refine skip_ (w1 := ?_) (by rfl) rfl ?_ ?_
      rotate_left
      · go_simp
        rfl
      refine hK.out _ _ ?_
      clear hK K
      refine pu_ 10 (some 25) (m_ 12 2047) rfl rfl (ao HT_) ?_
      refine last_ (i := 11) (N := none) (m_ 12 4095) rfl rfl (one_of HT_.out (by kernel_rfl)) (by decide) (fun K hK => ?_)
      have hs30 : c_ w27 gb169 1 (.int .u64 a1_1) := ct BK169 1
      have hfs30 := blk_frozen BK169.out 1
      have hns30_0 := NB168_169.out
      have hns30_2 := NB170_169.out
      have hns30_3 := NB173_169.out
      have hms30_0 := NB169_168.out
      have hms30_2 := NB169_170.out
      have hms30_3 := NB169_173.out
      have hs31 : c_ w27 gb169 2 (.int .u64 a1_2) := ct BK169 2
      have hfs31 := blk_frozen BK169.out 2
      have hns31_0 := NB168_169.out
      have hns31_2 := NB170_169.out
      have hns31_3 := NB173_169.out
      have hms31_0 := NB169_168.out
      have hms31_2 := NB169_170.out
      have hms31_3 := NB169_173.out
      refine skip_ (w1 := ?_) (by rfl) rfl ?_ ?_
      rotate_left
      · go_simp
        rfl
      refine hK.out _ _ ?_
      clear hK K
      refine done_ (done_of HT_.out (by kernel_rfl)) ?_
      have hcz32 := k3 BK168
      have hcz33 := k3 BK169
      try go_wp2_with (first | ((with_reducible refine gc 89 rfl ?_); refine gm_ (some 35) rfl rfl Tryd.func89 (frac_signed_whole.calls (a0_0 != a1_0) _ _ _ _ _ A6.out) ag ?_; intro w34 hb; replace BK168 := bp_ #[.bool (a0_0 != a1_0), .int .u64 t174, .int .u64 t175] BK168 hb; replace BK169 := bp_ #[.bool false, .int .u64 t176, .int .u64 t177] BK169 hb; replace BK170 := bb BK170 hb; replace HB := bs HB hb; (try clear hb); have hcz35 := k3 BK169) | ((with_reducible refine gc 89 rfl ?_); refine gm_ (some 40) rfl rfl Tryd.func89 (frac_signed_whole.calls _ _ _ _ _ _ A7.out) ag ?_; intro w36 hb; replace BK170 := bb BK170 hb; replace HB := bs HB hb; (try clear hb); have hcz37 := k2 BK170))
      refine bodyPost_ret (results_ct rfl _ _ gb170 23 #[.int .i64 t178, .int .i64 t180] (0, 0) _ rfl (br_ BK170) Tryd.underlying23 rfl (by kernel_rfl)) rfl ?_
      exact ⟨ae, bf HB⟩
    · replace c9 := Bool.eq_false_iff.mpr c9
      subst c9
      have H1 : (some (0, 0, 2)) = some (r1, r2, r3) := by rw [if_neg (show ¬ (false = true) by decide)] at H; exact H
      clear H
      have H := H1
      clear H1
      simp only [Option.some.injEq, Prod.mk.injEq] at H
      obtain ⟨rfl, rfl, rfl⟩ := H
      go_enter Tryd.func64, Tryd.ntmps64
      try go_wp2_with (first | ((with_reducible refine gd 2 rfl ?_); refine bx_ 2 106 #[.bool a0_0, .int .u64 a0_1, .int .u64 a0_2] rfl rfl ?_; intro gb168 hg w38 BK168 hb; have GE168 := bz HB hg; replace HB := bs HB hb; clear hb hg) | ((with_reducible refine gd 3 rfl ?_); refine bx_ 3 106 #[.bool a1_0, .int .u64 a1_1, .int .u64 a1_2] rfl rfl ?_; intro gb169 hg w39 BK169 hb; have GE169 := bz HB hg; have ⟨NB168_169, NB169_168⟩ := nb BK168 hg; replace BK168 := bb BK168 hb; replace HB := bs HB hb; clear hb hg) | ((with_reducible refine gd 4 rfl ?_); refine bx_ 4 23 #[.int .i64 0, .int .i64 0] rfl rfl ?_; intro gb170 hg w40 BK170 hb; have GE170 := bz HB hg; have ⟨NB168_170, NB170_168⟩ := nb BK168 hg; have ⟨NB169_170, NB170_169⟩ := nb BK169 hg; replace BK168 := bb BK168 hb; replace BK169 := bb BK169 hb; replace HB := bs HB hb; clear hb hg; have hnb41 := nn NB168_169; have hnb42 := nn NB168_170; have hcz43 := k3 BK168; have hnb44 := nn NB169_170; have hcz45 := k3 BK169) | ((with_reducible refine gc 87 rfl ?_); refine gm_ (some 15) rfl rfl Tryd.func87 (frac_gcd.calls _ _ _ _ _ _ _ _ A3.out (tt GT)) ag ?_; intro w46 hb; replace BK168 := bb BK168 hb; replace BK169 := bb BK169 hb; replace BK170 := bb BK170 hb; replace HB := bs HB hb; (try clear hb)) | ((with_reducible refine gd 6 rfl ?_); refine bx_ 6 104 #[.int .u64 0, .int .u64 0] rfl rfl ?_; intro gb173 hg w47 BK173 hb; have GE173 := bz HB hg; have ⟨NB168_173, NB173_168⟩ := nb BK168 hg; have ⟨NB169_173, NB173_169⟩ := nb BK169 hg; have ⟨NB170_173, NB173_170⟩ := nb BK170 hg; replace BK168 := bb BK168 hb; replace BK169 := bb BK169 hb; replace BK170 := bb BK170 hb; replace HB := bs HB hb; clear hb hg; have hnb48 := nn NB173_168; have hnb49 := nn NB173_169; have hnb50 := nn NB173_170; have hcz51 := k2 BK173))
      have n0_ : Aside0 (((w47.setCell ⟨gb173, 0, none⟩ (.int .u64 t171)).setCell ⟨gb173, 1, none⟩ (.int .u64 t172)).heap[gb168]? = some (.cells #[.bool a0_0, .int .u64 a0_1, .int .u64 a0_2] 106 (0, 0))) := bu_ BK168
      have n1_ : Aside0 (((w47.setCell ⟨gb173, 0, none⟩ (.int .u64 t171)).setCell ⟨gb173, 1, none⟩ (.int .u64 t172)).heap[gb169]? = some (.cells #[.bool a1_0, .int .u64 a1_1, .int .u64 a1_2] 106 (0, 0))) := bu_ BK169
      have n2_ : Aside0 (((w47.setCell ⟨gb173, 0, none⟩ (.int .u64 t171)).setCell ⟨gb173, 1, none⟩ (.int .u64 t172)).heap[gb170]? = some (.cells #[.int .i64 0, .int .i64 0] 23 (0, 0))) := bu_ BK170
      have n3_ : Aside0 (((w47.setCell ⟨gb173, 0, none⟩ (.int .u64 t171)).setCell ⟨gb173, 1, none⟩ (.int .u64 t172)).heap[gb173]? = some (.cells #[.int .u64 t171, .int .u64 t172] 104 (0, 0))) := bq_ BK173
      have n4_ : Aside0 (Below w.heap.size w ((w47.setCell ⟨gb173, 0, none⟩ (.int .u64 t171)).setCell ⟨gb173, 1, none⟩ (.int .u64 t172))) := ⟨bf HB⟩
      (try clear BK168); (try clear BK169); (try clear BK170); (try clear BK173); (try clear HB)
      generalize ((w47.setCell ⟨gb173, 0, none⟩ (.int .u64 t171)).setCell ⟨gb173, 1, none⟩ (.int .u64 t172)) = w52 at n0_ n1_ n2_ n3_ n4_ ⊢
      have BK168 := n0_
      have BK169 := n1_
      have BK170 := n2_
      have BK173 := n3_
      have HB := n4_
      clear n0_ n1_ n2_ n3_ n4_
      replace BK168 := Aside0.mk (blk_drew BK168.out)
      replace BK169 := Aside0.mk (blk_drew BK169.out)
      replace BK170 := Aside0.mk (blk_drew BK170.out)
      replace BK173 := Aside0.mk (blk_drew BK173.out)
      replace HB := Aside0.mk (below_drew1 HB.out)
      refine start_ (n := 12) (S := fun w' => c_ w' gb168 0 (.bool a0_0) ∧ c_ w' gb168 1 (.int .u64 a0_1) ∧ c_ w' gb168 2 (.int .u64 a0_2) ∧ c_ w' gb173 0 (.int .u64 t171) ∧ c_ w' gb173 1 (.int .u64 t172) ∧ c_ w' gb169 0 (.bool a1_0) ∧ c_ w' gb169 1 (.int .u64 a1_1) ∧ c_ w' gb169 2 (.int .u64 a1_2)) (ds := [9, 11]) (m_ 12 0) (by kernel_rfl) rfl rfl ⟨ct BK168 0, ct BK168 1, ct BK168 2, ct BK173 0, ct BK173 1, ct BK169 0, ct BK169 1, ct BK169 2⟩ (fun hHeld => ?_); refine with_tabW frac_reduced.tab2 frac_reduced.bits2 (fun HT_ HW_ => ?_)
      generalize w52.drew = w53 at BK168 BK169 BK170 BK173 HB hHeld ⊢
      refine pu_ 0 (some 16) (m_ 12 1) rfl rfl (ao HT_) ?_
      refine pu_ 4 (some 20) (m_ 12 17) rfl rfl (ao HT_) ?_
      refine tk_ 1 (some 17) (m_ 12 19) rfl rfl (tw HT_ HW_) hHeld ?_
      refine tk_ 2 (some 18) (m_ 12 23) rfl rfl (tw HT_ HW_) hHeld ?_
      refine tk_ 5 (some 21) (m_ 12 55) rfl rfl (tw HT_ HW_) hHeld ?_
      refine tk_ 6 (some 22) (m_ 12 119) rfl rfl (tw HT_ HW_) hHeld ?_
      refine o1_ 3 (some 19) (m_ 12 127) rfl rfl (oo HT_) (fun K hK => ?_)
      refine gs_ rfl Tryd.func88 (frac_wide_over.calls _ _ _ _ _ _ _ _ A4.out) ag ?_
      intro w54 hb
      replace BK168 := bb BK168 hb
      replace BK169 := bb BK169 hb
      replace BK170 := bb BK170 hb
      replace BK173 := bb BK173 hb
      replace HB := bs HB hb
      (try clear hb)
      refine hK.out _ _ ⟨ct BK168 0, ct BK168 1, ct BK168 2, ct BK173 0, ct BK173 1, ct BK169 0, ct BK169 1, ct BK169 2⟩ (fun hHeld => ?_)
      clear hK K
      refine nr_ (some 19) ?_
      refine pu_ 8 (some 24) (m_ 12 383) rfl rfl (ao HT_) ?_
      refine o1_ 7 (some 23) (m_ 12 511) rfl rfl (oo HT_) (fun K hK => ?_)
      refine gs_ rfl Tryd.func88 (frac_wide_over.calls _ _ _ _ _ _ _ _ A5.out) ag ?_
      intro w55 hb
      replace BK168 := bb BK168 hb
      replace BK169 := bb BK169 hb
      replace BK170 := bb BK170 hb
      replace BK173 := bb BK173 hb
      replace HB := bs HB hb
      (try clear hb)
      refine hK.out _ _ ⟨ct BK168 0, ct BK168 1, ct BK168 2, ct BK173 0, ct BK173 1, ct BK169 0, ct BK169 1, ct BK169 2⟩ (fun hHeld => ?_)
      clear hK K
      refine nr_ (some 23) ?_
      refine last_ (i := 9) (N := none) (m_ 12 1023) rfl rfl (one_of HT_.out (by kernel_rfl)) (by decide) (fun K hK => ?_)
      have hs56 : c_ w55 gb168 1 (.int .u64 a0_1) := ct BK168 1
      have hfs56 := blk_frozen BK168.out 1
      have hns56_1 := NB169_168.out
      have hns56_2 := NB170_168.out
      have hns56_3 := NB173_168.out
      have hms56_1 := NB168_169.out
      have hms56_2 := NB168_170.out
      have hms56_3 := NB168_173.out
      have hs57 : c_ w55 gb168 2 (.int .u64 a0_2) := ct BK168 2
      have hfs57 := blk_frozen BK168.out 2
      have hns57_1 := NB169_168.out
      have hns57_2 := NB170_168.out
      have hns57_3 := NB173_168.out
      have hms57_1 := NB168_169.out
      have hms57_2 := NB168_170.out
      have hms57_3 := NB168_173.out
      refine skip_ (w1 := ?_) (by rfl) rfl ?_ ?_
      rotate_left
      · go_simp
        rfl
      refine hK.out _ _ ?_
      clear hK K
      refine pu_ 10 (some 25) (m_ 12 2047) rfl rfl (ao HT_) ?_
      refine last_ (i := 11) (N := none) (m_ 12 4095) rfl rfl (one_of HT_.out (by kernel_rfl)) (by decide) (fun K hK => ?_)
      have hs58 : c_ w55 gb169 1 (.int .u64 a1_1) := ct BK169 1
      have hfs58 := blk_frozen BK169.out 1
      have hns58_0 := NB168_169.out
      have hns58_2 := NB170_169.out
      have hns58_3 := NB173_169.out
      have hms58_0 := NB169_168.out
      have hms58_2 := NB169_170.out
      have hms58_3 := NB169_173.out
      have hs59 : c_ w55 gb169 2 (.int .u64 a1_2) := ct BK169 2
      have hfs59 := blk_frozen BK169.out 2
      have hns59_0 := NB168_169.out
      have hns59_2 := NB170_169.out
      have hns59_3 := NB173_169.out
      have hms59_0 := NB169_168.out
      have hms59_2 := NB169_170.out
      have hms59_3 := NB169_173.out
      refine skip_ (w1 := ?_) (by rfl) rfl ?_ ?_
      rotate_left
      · go_simp
        rfl
      refine hK.out _ _ ?_
      clear hK K
      refine done_ (done_of HT_.out (by kernel_rfl)) ?_
      have hcz60 := k3 BK168
      have hcz61 := k3 BK169
      try go_wp2_with (first | ((with_reducible refine gc 89 rfl ?_); refine gm_ (some 35) rfl rfl Tryd.func89 (frac_signed_whole.calls (a0_0 != a1_0) _ _ _ _ _ A6.out) ag ?_; intro w62 hb; replace BK168 := bp_ #[.bool (a0_0 != a1_0), .int .u64 t174, .int .u64 t175] BK168 hb; replace BK169 := bp_ #[.bool false, .int .u64 t176, .int .u64 t177] BK169 hb; replace BK170 := bb BK170 hb; replace HB := bs HB hb; (try clear hb); have hcz63 := k3 BK169) | ((with_reducible refine gc 89 rfl ?_); refine gm_ (some 40) rfl rfl Tryd.func89 (frac_signed_whole.calls _ _ _ _ _ _ A7.out) ag ?_; intro w64 hb; replace BK170 := bb BK170 hb; replace HB := bs HB hb; (try clear hb); have hcz65 := k2 BK170))
      refine bodyPost_ret (results_ct rfl _ _ gb170 23 #[.int .i64 0, .int .i64 0] (0, 0) _ rfl (br_ BK170) Tryd.underlying23 rfl (by kernel_rfl)) rfl ?_
      exact ⟨ae, bf HB⟩
  · replace c8 := Bool.eq_false_iff.mpr c8
    subst c8
    have H1 : (some (0, 0, 2)) = some (r1, r2, r3) := by rw [if_neg (show ¬ (false = true) by decide)] at H; exact H
    clear H
    have H := H1
    clear H1
    simp only [Option.some.injEq, Prod.mk.injEq] at H
    obtain ⟨rfl, rfl, rfl⟩ := H
    go_enter Tryd.func64, Tryd.ntmps64
    try go_wp2_with (first | ((with_reducible refine gd 2 rfl ?_); refine bx_ 2 106 #[.bool a0_0, .int .u64 a0_1, .int .u64 a0_2] rfl rfl ?_; intro gb168 hg w66 BK168 hb; have GE168 := bz HB hg; replace HB := bs HB hb; clear hb hg) | ((with_reducible refine gd 3 rfl ?_); refine bx_ 3 106 #[.bool a1_0, .int .u64 a1_1, .int .u64 a1_2] rfl rfl ?_; intro gb169 hg w67 BK169 hb; have GE169 := bz HB hg; have ⟨NB168_169, NB169_168⟩ := nb BK168 hg; replace BK168 := bb BK168 hb; replace HB := bs HB hb; clear hb hg) | ((with_reducible refine gd 4 rfl ?_); refine bx_ 4 23 #[.int .i64 0, .int .i64 0] rfl rfl ?_; intro gb170 hg w68 BK170 hb; have GE170 := bz HB hg; have ⟨NB168_170, NB170_168⟩ := nb BK168 hg; have ⟨NB169_170, NB170_169⟩ := nb BK169 hg; replace BK168 := bb BK168 hb; replace BK169 := bb BK169 hb; replace HB := bs HB hb; clear hb hg; have hnb69 := nn NB168_169; have hnb70 := nn NB168_170; have hcz71 := k3 BK168; have hnb72 := nn NB169_170; have hcz73 := k3 BK169) | ((with_reducible refine gc 87 rfl ?_); refine gm_ (some 15) rfl rfl Tryd.func87 (frac_gcd.calls _ _ _ _ _ _ _ _ A3.out (tt GT)) ag ?_; intro w74 hb; replace BK168 := bb BK168 hb; replace BK169 := bb BK169 hb; replace BK170 := bb BK170 hb; replace HB := bs HB hb; (try clear hb)) | ((with_reducible refine gd 6 rfl ?_); refine bx_ 6 104 #[.int .u64 0, .int .u64 0] rfl rfl ?_; intro gb173 hg w75 BK173 hb; have GE173 := bz HB hg; have ⟨NB168_173, NB173_168⟩ := nb BK168 hg; have ⟨NB169_173, NB173_169⟩ := nb BK169 hg; have ⟨NB170_173, NB173_170⟩ := nb BK170 hg; replace BK168 := bb BK168 hb; replace BK169 := bb BK169 hb; replace BK170 := bb BK170 hb; replace HB := bs HB hb; clear hb hg; have hnb76 := nn NB173_168; have hnb77 := nn NB173_169; have hnb78 := nn NB173_170; have hcz79 := k2 BK173))
    have n0_ : Aside0 (((w75.setCell ⟨gb173, 0, none⟩ (.int .u64 t171)).setCell ⟨gb173, 1, none⟩ (.int .u64 t172)).heap[gb168]? = some (.cells #[.bool a0_0, .int .u64 a0_1, .int .u64 a0_2] 106 (0, 0))) := bu_ BK168
    have n1_ : Aside0 (((w75.setCell ⟨gb173, 0, none⟩ (.int .u64 t171)).setCell ⟨gb173, 1, none⟩ (.int .u64 t172)).heap[gb169]? = some (.cells #[.bool a1_0, .int .u64 a1_1, .int .u64 a1_2] 106 (0, 0))) := bu_ BK169
    have n2_ : Aside0 (((w75.setCell ⟨gb173, 0, none⟩ (.int .u64 t171)).setCell ⟨gb173, 1, none⟩ (.int .u64 t172)).heap[gb170]? = some (.cells #[.int .i64 0, .int .i64 0] 23 (0, 0))) := bu_ BK170
    have n3_ : Aside0 (((w75.setCell ⟨gb173, 0, none⟩ (.int .u64 t171)).setCell ⟨gb173, 1, none⟩ (.int .u64 t172)).heap[gb173]? = some (.cells #[.int .u64 t171, .int .u64 t172] 104 (0, 0))) := bq_ BK173
    have n4_ : Aside0 (Below w.heap.size w ((w75.setCell ⟨gb173, 0, none⟩ (.int .u64 t171)).setCell ⟨gb173, 1, none⟩ (.int .u64 t172))) := ⟨bf HB⟩
    (try clear BK168); (try clear BK169); (try clear BK170); (try clear BK173); (try clear HB)
    generalize ((w75.setCell ⟨gb173, 0, none⟩ (.int .u64 t171)).setCell ⟨gb173, 1, none⟩ (.int .u64 t172)) = w80 at n0_ n1_ n2_ n3_ n4_ ⊢
    have BK168 := n0_
    have BK169 := n1_
    have BK170 := n2_
    have BK173 := n3_
    have HB := n4_
    clear n0_ n1_ n2_ n3_ n4_
    replace BK168 := Aside0.mk (blk_drew BK168.out)
    replace BK169 := Aside0.mk (blk_drew BK169.out)
    replace BK170 := Aside0.mk (blk_drew BK170.out)
    replace BK173 := Aside0.mk (blk_drew BK173.out)
    replace HB := Aside0.mk (below_drew1 HB.out)
    refine start_ (n := 12) (S := fun w' => c_ w' gb168 0 (.bool a0_0) ∧ c_ w' gb168 1 (.int .u64 a0_1) ∧ c_ w' gb168 2 (.int .u64 a0_2) ∧ c_ w' gb173 0 (.int .u64 t171) ∧ c_ w' gb173 1 (.int .u64 t172) ∧ c_ w' gb169 0 (.bool a1_0) ∧ c_ w' gb169 1 (.int .u64 a1_1) ∧ c_ w' gb169 2 (.int .u64 a1_2)) (ds := [9, 11]) (m_ 12 0) (by kernel_rfl) rfl rfl ⟨ct BK168 0, ct BK168 1, ct BK168 2, ct BK173 0, ct BK173 1, ct BK169 0, ct BK169 1, ct BK169 2⟩ (fun hHeld => ?_); refine with_tabW frac_reduced.tab2 frac_reduced.bits2 (fun HT_ HW_ => ?_)
    generalize w80.drew = w81 at BK168 BK169 BK170 BK173 HB hHeld ⊢
    refine pu_ 0 (some 16) (m_ 12 1) rfl rfl (ao HT_) ?_
    refine pu_ 4 (some 20) (m_ 12 17) rfl rfl (ao HT_) ?_
    refine tk_ 1 (some 17) (m_ 12 19) rfl rfl (tw HT_ HW_) hHeld ?_
    refine tk_ 2 (some 18) (m_ 12 23) rfl rfl (tw HT_ HW_) hHeld ?_
    refine tk_ 5 (some 21) (m_ 12 55) rfl rfl (tw HT_ HW_) hHeld ?_
    refine tk_ 6 (some 22) (m_ 12 119) rfl rfl (tw HT_ HW_) hHeld ?_
    refine o1_ 3 (some 19) (m_ 12 127) rfl rfl (oo HT_) (fun K hK => ?_)
    refine gs_ rfl Tryd.func88 (frac_wide_over.calls _ _ _ _ _ _ _ _ A4.out) ag ?_
    intro w82 hb
    replace BK168 := bb BK168 hb
    replace BK169 := bb BK169 hb
    replace BK170 := bb BK170 hb
    replace BK173 := bb BK173 hb
    replace HB := bs HB hb
    (try clear hb)
    refine hK.out _ _ ⟨ct BK168 0, ct BK168 1, ct BK168 2, ct BK173 0, ct BK173 1, ct BK169 0, ct BK169 1, ct BK169 2⟩ (fun hHeld => ?_)
    clear hK K
    refine nr_ (some 19) ?_
    refine pu_ 8 (some 24) (m_ 12 383) rfl rfl (ao HT_) ?_
    refine o1_ 7 (some 23) (m_ 12 511) rfl rfl (oo HT_) (fun K hK => ?_)
    refine gs_ rfl Tryd.func88 (frac_wide_over.calls _ _ _ _ _ _ _ _ A5.out) ag ?_
    intro w83 hb
    replace BK168 := bb BK168 hb
    replace BK169 := bb BK169 hb
    replace BK170 := bb BK170 hb
    replace BK173 := bb BK173 hb
    replace HB := bs HB hb
    (try clear hb)
    refine hK.out _ _ ⟨ct BK168 0, ct BK168 1, ct BK168 2, ct BK173 0, ct BK173 1, ct BK169 0, ct BK169 1, ct BK169 2⟩ (fun hHeld => ?_)
    clear hK K
    refine nr_ (some 23) ?_
    refine last_ (i := 9) (N := none) (m_ 12 1023) rfl rfl (one_of HT_.out (by kernel_rfl)) (by decide) (fun K hK => ?_)
    have hs84 : c_ w83 gb168 1 (.int .u64 a0_1) := ct BK168 1
    have hfs84 := blk_frozen BK168.out 1
    have hns84_1 := NB169_168.out
    have hns84_2 := NB170_168.out
    have hns84_3 := NB173_168.out
    have hms84_1 := NB168_169.out
    have hms84_2 := NB168_170.out
    have hms84_3 := NB168_173.out
    have hs85 : c_ w83 gb168 2 (.int .u64 a0_2) := ct BK168 2
    have hfs85 := blk_frozen BK168.out 2
    have hns85_1 := NB169_168.out
    have hns85_2 := NB170_168.out
    have hns85_3 := NB173_168.out
    have hms85_1 := NB168_169.out
    have hms85_2 := NB168_170.out
    have hms85_3 := NB168_173.out
    refine skip_ (w1 := ?_) (by rfl) rfl ?_ ?_
    rotate_left
    · go_simp
      rfl
    refine hK.out _ _ ?_
    clear hK K
    refine pu_ 10 (some 25) (m_ 12 2047) rfl rfl (ao HT_) ?_
    refine last_ (i := 11) (N := none) (m_ 12 4095) rfl rfl (one_of HT_.out (by kernel_rfl)) (by decide) (fun K hK => ?_)
    have hs86 : c_ w83 gb169 1 (.int .u64 a1_1) := ct BK169 1
    have hfs86 := blk_frozen BK169.out 1
    have hns86_0 := NB168_169.out
    have hns86_2 := NB170_169.out
    have hns86_3 := NB173_169.out
    have hms86_0 := NB169_168.out
    have hms86_2 := NB169_170.out
    have hms86_3 := NB169_173.out
    have hs87 : c_ w83 gb169 2 (.int .u64 a1_2) := ct BK169 2
    have hfs87 := blk_frozen BK169.out 2
    have hns87_0 := NB168_169.out
    have hns87_2 := NB170_169.out
    have hns87_3 := NB173_169.out
    have hms87_0 := NB169_168.out
    have hms87_2 := NB169_170.out
    have hms87_3 := NB169_173.out
    refine skip_ (w1 := ?_) (by rfl) rfl ?_ ?_
    rotate_left
    · go_simp
      rfl
    refine hK.out _ _ ?_
    clear hK K
    refine done_ (done_of HT_.out (by kernel_rfl)) ?_
    have hcz88 := k3 BK168
    have hcz89 := k3 BK169
    try go_wp2_with (first | ((with_reducible refine gc 89 rfl ?_); refine gm_ (some 35) rfl rfl Tryd.func89 (frac_signed_whole.calls (a0_0 != a1_0) _ _ _ _ _ A6.out) ag ?_; intro w90 hb; replace BK168 := bp_ #[.bool (a0_0 != a1_0), .int .u64 t174, .int .u64 t175] BK168 hb; replace BK169 := bp_ #[.bool false, .int .u64 t176, .int .u64 t177] BK169 hb; replace BK170 := bb BK170 hb; replace HB := bs HB hb; (try clear hb); have hcz91 := k3 BK169) | ((with_reducible refine gc 89 rfl ?_); refine gm_ (some 40) rfl rfl Tryd.func89 (frac_signed_whole.calls _ _ _ _ _ _ A7.out) ag ?_; intro w92 hb; replace BK170 := bb BK170 hb; replace HB := bs HB hb; (try clear hb); have hcz93 := k2 BK170))
    refine bodyPost_ret (results_ct rfl _ _ gb170 23 #[.int .i64 0, .int .i64 0] (0, 0) _ rfl (br_ BK170) Tryd.underlying23 rfl (by kernel_rfl)) rfl ?_
    exact ⟨ae, bf HB⟩

/-! ### frac_sized: function 65 -/
theorem frac_sized.calls (a0 : Int) (r1 : Bool) (r2 : Int) (r3 : Int) (w : World) (h : frac_sized.f a0 = some (r1, r2, r3)) :
    Calls Tryd.prog 65 #[.int .i64 a0] w fun e w' => e = .returned (.agg #[.bool r1, .int .u64 r2, .int .u64 r3]) ∧ Below w.heap.size w w' := by
  have hu106 := Tryd.underlying106
  have hu104 := Tryd.underlying104
  have HB := Aside0.mk (Below.refl w.heap.size w)
  have H : (if a0 < 0 then (some (true, 0, IntKind.u64.wrap (-(IntKind.u64.wrap (a0))))) else (some (false, 0, IntKind.u64.wrap (a0)))) = some (r1, r2, r3) := h
  clear h
  by_cases c2 : a0 < 0
  · rw [if_pos c2] at H
    have c2b0 : decide (a0 < 0) = true := decide_eq_true c2
    clear c2
    simp only [Option.some.injEq, Prod.mk.injEq] at H
    obtain ⟨rfl, rfl, rfl⟩ := H
    go_enter Tryd.func65, Tryd.ntmps65
    go_wp2_with (first | ((with_reducible refine gd 2 rfl ?_); refine bx_ 2 106 #[.bool false, .int .u64 0, .int .u64 0] rfl rfl ?_; intro gb182 hg w3 BK182 hb; have GE182 := bz HB hg; replace HB := bs HB hb; clear hb hg; have hcz4 := k3 BK182))
    refine bodyPost_ret (results_cell_row rfl _ _ gb182 106 #[.bool true, .int .u64 0, .int .u64 (IntKind.u64.wrap (-(IntKind.u64.wrap (a0))))] (0, 0) _ rfl (br_ BK182) Tryd.underlying106 rfl (by kernel_rfl)) rfl ?_
    exact ⟨ae, bf HB⟩
  · rw [if_neg c2] at H
    have c2b0 : decide (a0 < 0) = false := decide_eq_false c2
    clear c2
    simp only [Option.some.injEq, Prod.mk.injEq] at H
    obtain ⟨rfl, rfl, rfl⟩ := H
    go_enter Tryd.func65, Tryd.ntmps65
    go_wp2_with (first | ((with_reducible refine gd 2 rfl ?_); refine bx_ 2 106 #[.bool false, .int .u64 0, .int .u64 0] rfl rfl ?_; intro gb182 hg w5 BK182 hb; have GE182 := bz HB hg; replace HB := bs HB hb; clear hb hg; have hcz6 := k3 BK182))
    refine bodyPost_ret (results_cell_row rfl _ _ gb182 106 #[.bool false, .int .u64 0, .int .u64 (IntKind.u64.wrap (a0))] (0, 0) _ rfl (br_ BK182) Tryd.underlying106 rfl (by kernel_rfl)) rfl ?_
    exact ⟨ae, bf HB⟩

/-! ### frac_Of: function 34 -/
theorem frac_Of.calls (k : Nat) (a0 : Int) (a1 : Int) (r1 : Int) (r2 : Int) (r3 : Int) (w : World) (h : frac_Of.f k a0 a1 = some (r1, r2, r3)) (hT : TabOK w) :
    Calls Tryd.prog 34 #[.int .i64 a0, .int .i64 a1] w fun e w' => e = .returned (.tuple #[.agg #[.int .i64 r1, .int .i64 r2], .int .i64 r3]) ∧ Below w.heap.size w w' := by
  have GT := Aside0.mk hT
  clear hT
  have hu23 := Tryd.underlying23
  have HB := Aside0.mk (Below.refl w.heap.size w)
  have H : (if a1 = 0 then (some (0, 0, 3)) else ((frac_sized.f a0).bind fun bt184 => ((frac_sized.f a1).bind fun bt187 => ((frac_reduced.f k bt184.1 bt184.2.1 bt184.2.2 bt187.1 bt187.2.1 bt187.2.2).bind fun bt190 => (some (bt190.1, bt190.2.1, bt190.2.2)))))) = some (r1, r2, r3) := h
  clear h
  by_cases c3 : a1 = 0
  · rw [if_pos c3] at H
    have c3b0 : (a1 == 0) = true := beq_iff_eq.mpr c3
    have c3b1 : (a1 != 0) = false := bne_eq_false_iff_eq.mpr c3
    clear c3
    simp only [Option.some.injEq, Prod.mk.injEq] at H
    obtain ⟨rfl, rfl, rfl⟩ := H
    go_enter Tryd.func34, Tryd.ntmps34
    go_wp2_with (first | ((with_reducible refine gd 4 rfl ?_); refine bx_ 4 23 #[.int .i64 0, .int .i64 0] rfl rfl ?_; intro gb183 hg w4 BK183 hb; have GE183 := bz HB hg; replace HB := bs HB hb; clear hb hg; have hcz5 := k2 BK183))
    refine bodyPost_ret (results_ct rfl _ _ gb183 23 #[.int .i64 0, .int .i64 0] (0, 0) _ rfl (br_ BK183) Tryd.underlying23 rfl (by kernel_rfl)) rfl ?_
    exact ⟨ae, bf HB⟩
  · rw [if_neg c3] at H
    have c3b0 : (a1 == 0) = false := beq_eq_false_iff_ne.mpr c3
    have c3b1 : (a1 != 0) = true := bne_iff_ne.mpr c3
    replace H := bi_ H; obtain ⟨⟨t184, t185, t186⟩, A6, H⟩ := H
    (try dsimp only at H)
    replace H := bi_ H; obtain ⟨⟨t187, t188, t189⟩, A7, H⟩ := H
    (try dsimp only at H)
    replace H := bi_ H; obtain ⟨⟨t190, t191, t192⟩, A8, H⟩ := H
    (try dsimp only at H)
    simp only [Option.some.injEq, Prod.mk.injEq] at H
    obtain ⟨rfl, rfl, rfl⟩ := H
    go_enter Tryd.func34, Tryd.ntmps34
    go_wp2_with (first | ((with_reducible refine gd 4 rfl ?_); refine bx_ 4 23 #[.int .i64 0, .int .i64 0] rfl rfl ?_; intro gb183 hg w9 BK183 hb; have GE183 := bz HB hg; replace HB := bs HB hb; clear hb hg) | ((with_reducible refine gc 65 rfl ?_); refine gm_ (some 10) rfl rfl Tryd.func65 (frac_sized.calls _ _ _ _ _ A6.out) ag ?_; intro w10 hb; replace BK183 := bb BK183 hb; replace HB := bs HB hb; (try clear hb)) | ((with_reducible refine gc 65 rfl ?_); refine gm_ (some 12) rfl rfl Tryd.func65 (frac_sized.calls _ _ _ _ _ A7.out) ag ?_; intro w11 hb; replace BK183 := bb BK183 hb; replace HB := bs HB hb; (try clear hb)) | ((with_reducible refine gc 64 rfl ?_); refine gm_ (some 13) rfl rfl Tryd.func64 (frac_reduced.calls _ _ _ _ _ _ _ _ _ _ _ A8.out (tt GT)) ag ?_; intro w12 hb; replace BK183 := bb BK183 hb; replace HB := bs HB hb; (try clear hb); have hcz13 := k2 BK183))
    refine bodyPost_ret (results_ct rfl _ _ gb183 23 #[.int .i64 t190, .int .i64 t191] (0, 0) _ rfl (br_ BK183) Tryd.underlying23 rfl (by kernel_rfl)) rfl ?_
    exact ⟨ae, bf HB⟩

/-! ### frac_nought: function 82 -/
theorem frac_nought.calls  (r1 : Int) (r2 : Int) (w : World) (h : frac_nought.f  = some (r1, r2)) :
    Calls Tryd.prog 82 #[] w fun e w' => e = .returned (.agg #[.int .i64 r1, .int .i64 r2]) ∧ Below w.heap.size w w' := by
  have hu23 := Tryd.underlying23
  have HB := Aside0.mk (Below.refl w.heap.size w)
  have H : (some (0, 1)) = some (r1, r2) := h
  clear h
  simp only [Option.some.injEq, Prod.mk.injEq] at H
  obtain ⟨rfl, rfl⟩ := H
  go_enter Tryd.func82, Tryd.ntmps82
  go_wp2_with (first | ((with_reducible refine gd 0 rfl ?_); refine bx_ 0 23 #[.int .i64 0, .int .i64 0] rfl rfl ?_; intro gb193 hg w1 BK193 hb; have GE193 := bz HB hg; replace HB := bs HB hb; clear hb hg; have hcz2 := k2 BK193))
  refine bodyPost_ret (results_cell_row rfl _ _ gb193 23 #[.int .i64 0, .int .i64 1] (0, 0) _ rfl (br_ BK193) Tryd.underlying23 rfl (by kernel_rfl)) rfl ?_
  exact ⟨ae, bf HB⟩

end Go.Proofs.YtpdmiookdmncpaaDoor.X
