/- Walks: each '.calls' says that the Go function comes to what its Lean function tells. Conditions: as each theorem's head says. -/
import Derived.Test.YtfhokgkpcphmlaaGreatDoorXD
import Derived.Test.YtfhokgkpcphmlaaGreatDoorX0
import Derived.Test.YtfhokgkpcphmlaaGreatDoorX7
import Derived.Test.YtfhokgkpcphmlaaGreatDoorX8
namespace Go.Proofs.YtfhokgkpcphmlaaGreatDoor.X
open Go.RowKit Go.Proofs.YtfhokgkpcphmlaaGreatDoorW.PrintWords Go.Proofs.YtfhokgkpcphmlaaGreatDoorW.PrintLast Go.Proofs.YtfhokgkpcphmlaaGreatDoorW.PrintMore
attribute [local go_sem] max2_int min2_int max_two min_two max_three min_three max_four min_four   -- for this text's walks alone
set_option linter.unusedVariables false
set_option maxHeartbeats 8000000
set_option maxRecDepth 100000
set_option linter.unusedSimpArgs false

/-! ### frac_reduced: function 36 -/
def frac_reduced.T2 : Bool × List (List Nat × List Nat) := (true, [([], []), ([0], [0]), ([], []), ([1, 2], [1, 2]), ([], []), ([4], [4]), ([], []), ([5, 6, 3], [5, 6]), ([0, 1, 2, 3], []), ([8, 3, 7, 0, 1, 2, 3], [3, 8]), ([0, 1, 2, 3, 4, 5, 6, 7, 8, 9], []), ([10, 7, 9, 0, 1, 2, 3, 4, 5, 6, 7, 8, 9], [7, 10])])
def frac_reduced.B2 : List Nat := [0, 1, 0, 7, 0, 16, 0, 127, 15, 511, 1023, 2047]
theorem frac_reduced.tab2 : rtab .any (opsOf Tryz.f36 2) = frac_reduced.T2 := by kernel_rfl
theorem frac_reduced.bits2 : waitsOk frac_reduced.T2.2 frac_reduced.B2 = true := by kernel_rfl
theorem frac_reduced.calls (k : Nat) (a0_0 : Bool) (a0_1 : Int) (a0_2 : Int) (a1_0 : Bool) (a1_1 : Int) (a1_2 : Int) (r1 : Int) (r2 : Int) (r3 : Int) (w : World) (h : frac_reduced.f k a0_0 a0_1 a0_2 a1_0 a1_1 a1_2 = some (r1, r2, r3)) (hT : TabOK w) :
  Calls Tryz.prog 36 #[.agg #[.bool a0_0, .int .u64 a0_1, .int .u64 a0_2], .agg #[.bool a1_0, .int .u64 a1_1, .int .u64 a1_2]] w fun e w' => e = .returned (.tuple #[.agg #[.int .i64 r1, .int .i64 r2], .int .i64 r3]) ∧ Below w.heap.size w w' := by
 have GT := Aside0.mk hT
 clear hT
 have hu90 := Tryz.underlying90
 have hu23 := Tryz.underlying23
 have hu88 := Tryz.underlying88
 have HB := Aside0.mk (Below.refl w.heap.size w)
 have H : ((frac_gcd.f k a0_1 a0_2 a1_1 a1_2).bind fun bt208 => ((frac_wide_over.f k a0_1 a0_2 bt208.1 bt208.2).bind fun bt211 => ((frac_wide_over.f k a1_1 a1_2 bt208.1 bt208.2).bind fun bt213 => ((frac_signed_whole.f (a0_0 != a1_0) bt211.1 bt211.2).bind fun bt215 => ((frac_signed_whole.f false bt213.1 bt213.2).bind fun bt217 => (if bt215.2 = true then (if bt217.2 = true then (some (bt215.1, bt217.1, 0)) else (some (0, 0, 2))) else (some (0, 0, 2)))))))) = some (r1, r2, r3) := h
 clear h
 replace H := bi_ H; obtain ⟨⟨t208, t209⟩, A3, H⟩ := H
 (try dsimp only at H)
 replace H := bi_ H; obtain ⟨⟨t211, t212⟩, A4, H⟩ := H
 (try dsimp only at H)
 replace H := bi_ H; obtain ⟨⟨t213, t214⟩, A5, H⟩ := H
 (try dsimp only at H)
 replace H := bi_ H; obtain ⟨⟨t215, t216⟩, A6, H⟩ := H
 (try dsimp only at H)
 replace H := bi_ H; obtain ⟨⟨t217, t218⟩, A7, H⟩ := H
 (try dsimp only at H)
 by_cases c8 : t216 = true
 ·subst c8
  have H1 : (if t218 = true then (some (t215, t217, 0)) else (some (0, 0, 2))) = some (r1, r2, r3) := by rw [if_pos rfl] at H; exact H
  clear H
  have H := H1
  clear H1
  by_cases c9 : t218 = true
  ·subst c9
   have H1 : (some (t215, t217, 0)) = some (r1, r2, r3) := by rw [if_pos rfl] at H; exact H
   clear H
   have H := H1
   clear H1
   simp only [Option.some.injEq, Prod.mk.injEq] at H
   obtain ⟨rfl, rfl, rfl⟩ := H
   go_enter Tryz.func36, Tryz.ntmps36
   try go_wp2_with (first | ((with_reducible refine gd 2 rfl ?_); refine bx_ 2 90 #[.bool a0_0, .int .u64 a0_1, .int .u64 a0_2] rfl rfl ?_; intro gb205 hg w10 BK205 hb; have GE205 := bz HB hg; replace HB := bs HB hb; clear hb hg) | ((with_reducible refine gd 3 rfl ?_); refine bx_ 3 90 #[.bool a1_0, .int .u64 a1_1, .int .u64 a1_2] rfl rfl ?_; intro gb206 hg w11 BK206 hb; have GE206 := bz HB hg; have ⟨NB205_206, NB206_205⟩ := nb BK205 hg; replace BK205 := bb BK205 hb; replace HB := bs HB hb; clear hb hg) | ((with_reducible refine gd 4 rfl ?_); refine bx_ 4 23 #[.int .i64 0, .int .i64 0] rfl rfl ?_; intro gb207 hg w12 BK207 hb; have GE207 := bz HB hg; have ⟨NB205_207, NB207_205⟩ := nb BK205 hg; have ⟨NB206_207, NB207_206⟩ := nb BK206 hg; replace BK205 := bb BK205 hb; replace BK206 := bb BK206 hb; replace HB := bs HB hb; clear hb hg; have hnb13 := nn NB205_206; have hnb14 := nn NB205_207; have hcz15 := X.k3 BK205; have hnb16 := nn NB206_207; have hcz17 := X.k3 BK206) | ((with_reducible refine gc 63 rfl ?_); refine gm_ (some 15) rfl rfl Tryz.func63 (frac_gcd.calls _ _ _ _ _ _ _ _ A3.out (tt GT)) ag ?_; intro w18 hb; replace BK205 := bb BK205 hb; replace BK206 := bb BK206 hb; replace BK207 := bb BK207 hb; replace HB := bs HB hb; (try clear hb)) | ((with_reducible refine gd 6 rfl ?_); refine bx_ 6 88 #[.int .u64 0, .int .u64 0] rfl rfl ?_; intro gb210 hg w19 BK210 hb; have GE210 := bz HB hg; have ⟨NB205_210, NB210_205⟩ := nb BK205 hg; have ⟨NB206_210, NB210_206⟩ := nb BK206 hg; have ⟨NB207_210, NB210_207⟩ := nb BK207 hg; replace BK205 := bb BK205 hb; replace BK206 := bb BK206 hb; replace BK207 := bb BK207 hb; replace HB := bs HB hb; clear hb hg; have hnb20 := nn NB210_205; have hnb21 := nn NB210_206; have hnb22 := nn NB210_207; have hcz23 := X.k2 BK210))
   have n0_ : Aside0 (((w19.setCell ⟨gb210, 0, none⟩ (.int .u64 t208)).setCell ⟨gb210, 1, none⟩ (.int .u64 t209)).heap[gb205]? = some (.cells #[.bool a0_0, .int .u64 a0_1, .int .u64 a0_2] 90 (0, 0))) := bu_ BK205
   have n1_ : Aside0 (((w19.setCell ⟨gb210, 0, none⟩ (.int .u64 t208)).setCell ⟨gb210, 1, none⟩ (.int .u64 t209)).heap[gb206]? = some (.cells #[.bool a1_0, .int .u64 a1_1, .int .u64 a1_2] 90 (0, 0))) := bu_ BK206
   have n2_ : Aside0 (((w19.setCell ⟨gb210, 0, none⟩ (.int .u64 t208)).setCell ⟨gb210, 1, none⟩ (.int .u64 t209)).heap[gb207]? = some (.cells #[.int .i64 0, .int .i64 0] 23 (0, 0))) := bu_ BK207
   have n3_ : Aside0 (((w19.setCell ⟨gb210, 0, none⟩ (.int .u64 t208)).setCell ⟨gb210, 1, none⟩ (.int .u64 t209)).heap[gb210]? = some (.cells #[.int .u64 t208, .int .u64 t209] 88 (0, 0))) := bq_ BK210
   have n4_ : Aside0 (Below w.heap.size w ((w19.setCell ⟨gb210, 0, none⟩ (.int .u64 t208)).setCell ⟨gb210, 1, none⟩ (.int .u64 t209))) := ⟨bf HB⟩
   (try clear BK205); (try clear BK206); (try clear BK207); (try clear BK210); (try clear HB)
   generalize ((w19.setCell ⟨gb210, 0, none⟩ (.int .u64 t208)).setCell ⟨gb210, 1, none⟩ (.int .u64 t209)) = w24 at n0_ n1_ n2_ n3_ n4_ ⊢
   have BK205 := n0_
   have BK206 := n1_
   have BK207 := n2_
   have BK210 := n3_
   have HB := n4_
   clear n0_ n1_ n2_ n3_ n4_
   replace BK205 := Aside0.mk (blk_drew BK205.out)
   replace BK206 := Aside0.mk (blk_drew BK206.out)
   replace BK207 := Aside0.mk (blk_drew BK207.out)
   replace BK210 := Aside0.mk (blk_drew BK210.out)
   replace HB := Aside0.mk (below_drew1 HB.out)
   refine start_ (n := 12) (S := fun w' => c_ w' gb205 0 (.bool a0_0) ∧ c_ w' gb205 1 (.int .u64 a0_1) ∧ c_ w' gb205 2 (.int .u64 a0_2) ∧ c_ w' gb210 0 (.int .u64 t208) ∧ c_ w' gb210 1 (.int .u64 t209) ∧ c_ w' gb206 0 (.bool a1_0) ∧ c_ w' gb206 1 (.int .u64 a1_1) ∧ c_ w' gb206 2 (.int .u64 a1_2)) (ds := [9, 11]) (m_ 12 0) (by kernel_rfl) rfl rfl ⟨ct BK205 0, ct BK205 1, ct BK205 2, ct BK210 0, ct BK210 1, ct BK206 0, ct BK206 1, ct BK206 2⟩ (fun hHeld => ?_); refine with_tabW frac_reduced.tab2 frac_reduced.bits2 (fun HT_ HW_ => ?_)
   generalize w24.drew = w25 at BK205 BK206 BK207 BK210 HB hHeld ⊢
   refine pu_ 0 (some 16) (m_ 12 1) rfl rfl (ao HT_) ?_
   refine pu_ 4 (some 20) (m_ 12 17) rfl rfl (ao HT_) ?_
   refine tk_ 1 (some 17) (m_ 12 19) rfl rfl (tw HT_ HW_) hHeld ?_
   refine tk_ 2 (some 18) (m_ 12 23) rfl rfl (tw HT_ HW_) hHeld ?_
   refine tk_ 5 (some 21) (m_ 12 55) rfl rfl (tw HT_ HW_) hHeld ?_
   refine tk_ 6 (some 22) (m_ 12 119) rfl rfl (tw HT_ HW_) hHeld ?_
   refine o1_ 3 (some 19) (m_ 12 127) rfl rfl (oo HT_) (fun K hK => ?_)
   refine gs_ rfl Tryz.func64 (frac_wide_over.calls _ _ _ _ _ _ _ _ A4.out) ag ?_
   intro w26 hb
   replace BK205 := bb BK205 hb
   replace BK206 := bb BK206 hb
   replace BK207 := bb BK207 hb
   replace BK210 := bb BK210 hb
   replace HB := bs HB hb
   (try clear hb)
   refine hK.out _ _ ⟨ct BK205 0, ct BK205 1, ct BK205 2, ct BK210 0, ct BK210 1, ct BK206 0, ct BK206 1, ct BK206 2⟩ (fun hHeld => ?_)
   clear hK K
   refine nr_ (some 19) ?_
   refine pu_ 8 (some 24) (m_ 12 383) rfl rfl (ao HT_) ?_
   refine o1_ 7 (some 23) (m_ 12 511) rfl rfl (oo HT_) (fun K hK => ?_)
   refine gs_ rfl Tryz.func64 (frac_wide_over.calls _ _ _ _ _ _ _ _ A5.out) ag ?_
   intro w27 hb
   replace BK205 := bb BK205 hb
   replace BK206 := bb BK206 hb
   replace BK207 := bb BK207 hb
   replace BK210 := bb BK210 hb
   replace HB := bs HB hb
   (try clear hb)
   refine hK.out _ _ ⟨ct BK205 0, ct BK205 1, ct BK205 2, ct BK210 0, ct BK210 1, ct BK206 0, ct BK206 1, ct BK206 2⟩ (fun hHeld => ?_)
   clear hK K
   refine nr_ (some 23) ?_
   refine last_ (i := 9) (N := none) (m_ 12 1023) rfl rfl (one_of HT_.out (by kernel_rfl)) (by decide) (fun K hK => ?_)
   have hs28 : c_ w27 gb205 1 (.int .u64 a0_1) := ct BK205 1
   have hfs28 := blk_frozen BK205.out 1
   have hns28_1 := NB206_205.out
   have hns28_2 := NB207_205.out
   have hns28_3 := NB210_205.out
   have hms28_1 := NB205_206.out
   have hms28_2 := NB205_207.out
   have hms28_3 := NB205_210.out
   have hs29 : c_ w27 gb205 2 (.int .u64 a0_2) := ct BK205 2
   have hfs29 := blk_frozen BK205.out 2
   have hns29_1 := NB206_205.out
   have hns29_2 := NB207_205.out
   have hns29_3 := NB210_205.out
   have hms29_1 := NB205_206.out
   have hms29_2 := NB205_207.out
   have hms29_3 := NB205_210.out
   refine skip_ (w1 := ?_) (by rfl) rfl ?_ ?_
   rotate_left
   ·go_simp
    rfl
   refine hK.out _ _ ?_
   clear hK K
   refine pu_ 10 (some 25) (m_ 12 2047) rfl rfl (ao HT_) ?_
   refine last_ (i := 11) (N := none) (m_ 12 4095) rfl rfl (one_of HT_.out (by kernel_rfl)) (by decide) (fun K hK => ?_)
   have hs30 : c_ w27 gb206 1 (.int .u64 a1_1) := ct BK206 1
   have hfs30 := blk_frozen BK206.out 1
   have hns30_0 := NB205_206.out
   have hns30_2 := NB207_206.out
   have hns30_3 := NB210_206.out
   have hms30_0 := NB206_205.out
   have hms30_2 := NB206_207.out
   have hms30_3 := NB206_210.out
   have hs31 : c_ w27 gb206 2 (.int .u64 a1_2) := ct BK206 2
   have hfs31 := blk_frozen BK206.out 2
   have hns31_0 := NB205_206.out
   have hns31_2 := NB207_206.out
   have hns31_3 := NB210_206.out
   have hms31_0 := NB206_205.out
   have hms31_2 := NB206_207.out
   have hms31_3 := NB206_210.out
   refine skip_ (w1 := ?_) (by rfl) rfl ?_ ?_
   rotate_left
   ·go_simp
    rfl
   refine hK.out _ _ ?_
   clear hK K
   refine done_ (done_of HT_.out (by kernel_rfl)) ?_
   have hcz32 := X.k3 BK205
   have hcz33 := X.k3 BK206
   try go_wp2_with (first | ((with_reducible refine gc 65 rfl ?_); refine gm_ (some 35) rfl rfl Tryz.func65 (frac_signed_whole.calls (a0_0 != a1_0) _ _ _ _ _ A6.out) ag ?_; intro w34 hb; replace BK205 := bp_ #[.bool (a0_0 != a1_0), .int .u64 t211, .int .u64 t212] BK205 hb; replace BK206 := bp_ #[.bool false, .int .u64 t213, .int .u64 t214] BK206 hb; replace BK207 := bb BK207 hb; replace HB := bs HB hb; (try clear hb); have hcz35 := X.k3 BK206) | ((with_reducible refine gc 65 rfl ?_); refine gm_ (some 40) rfl rfl Tryz.func65 (frac_signed_whole.calls _ _ _ _ _ _ A7.out) ag ?_; intro w36 hb; replace BK207 := bb BK207 hb; replace HB := bs HB hb; (try clear hb); have hcz37 := X.k2 BK207))
   refine bodyPost_ret (results_ct rfl _ _ gb207 23 #[.int .i64 t215, .int .i64 t217] (0, 0) _ rfl (br_ BK207) Tryz.underlying23 rfl (by kernel_rfl)) rfl ?_
   exact ⟨ae, bf HB⟩
  ·replace c9 := Bool.eq_false_iff.mpr c9
   subst c9
   have H1 : (some (0, 0, 2)) = some (r1, r2, r3) := by rw [if_neg (show ¬ (false = true) by decide)] at H; exact H
   clear H
   have H := H1
   clear H1
   simp only [Option.some.injEq, Prod.mk.injEq] at H
   obtain ⟨rfl, rfl, rfl⟩ := H
   go_enter Tryz.func36, Tryz.ntmps36
   try go_wp2_with (first | ((with_reducible refine gd 2 rfl ?_); refine bx_ 2 90 #[.bool a0_0, .int .u64 a0_1, .int .u64 a0_2] rfl rfl ?_; intro gb205 hg w38 BK205 hb; have GE205 := bz HB hg; replace HB := bs HB hb; clear hb hg) | ((with_reducible refine gd 3 rfl ?_); refine bx_ 3 90 #[.bool a1_0, .int .u64 a1_1, .int .u64 a1_2] rfl rfl ?_; intro gb206 hg w39 BK206 hb; have GE206 := bz HB hg; have ⟨NB205_206, NB206_205⟩ := nb BK205 hg; replace BK205 := bb BK205 hb; replace HB := bs HB hb; clear hb hg) | ((with_reducible refine gd 4 rfl ?_); refine bx_ 4 23 #[.int .i64 0, .int .i64 0] rfl rfl ?_; intro gb207 hg w40 BK207 hb; have GE207 := bz HB hg; have ⟨NB205_207, NB207_205⟩ := nb BK205 hg; have ⟨NB206_207, NB207_206⟩ := nb BK206 hg; replace BK205 := bb BK205 hb; replace BK206 := bb BK206 hb; replace HB := bs HB hb; clear hb hg; have hnb41 := nn NB205_206; have hnb42 := nn NB205_207; have hcz43 := X.k3 BK205; have hnb44 := nn NB206_207; have hcz45 := X.k3 BK206) | ((with_reducible refine gc 63 rfl ?_); refine gm_ (some 15) rfl rfl Tryz.func63 (frac_gcd.calls _ _ _ _ _ _ _ _ A3.out (tt GT)) ag ?_; intro w46 hb; replace BK205 := bb BK205 hb; replace BK206 := bb BK206 hb; replace BK207 := bb BK207 hb; replace HB := bs HB hb; (try clear hb)) | ((with_reducible refine gd 6 rfl ?_); refine bx_ 6 88 #[.int .u64 0, .int .u64 0] rfl rfl ?_; intro gb210 hg w47 BK210 hb; have GE210 := bz HB hg; have ⟨NB205_210, NB210_205⟩ := nb BK205 hg; have ⟨NB206_210, NB210_206⟩ := nb BK206 hg; have ⟨NB207_210, NB210_207⟩ := nb BK207 hg; replace BK205 := bb BK205 hb; replace BK206 := bb BK206 hb; replace BK207 := bb BK207 hb; replace HB := bs HB hb; clear hb hg; have hnb48 := nn NB210_205; have hnb49 := nn NB210_206; have hnb50 := nn NB210_207; have hcz51 := X.k2 BK210))
   have n0_ : Aside0 (((w47.setCell ⟨gb210, 0, none⟩ (.int .u64 t208)).setCell ⟨gb210, 1, none⟩ (.int .u64 t209)).heap[gb205]? = some (.cells #[.bool a0_0, .int .u64 a0_1, .int .u64 a0_2] 90 (0, 0))) := bu_ BK205
   have n1_ : Aside0 (((w47.setCell ⟨gb210, 0, none⟩ (.int .u64 t208)).setCell ⟨gb210, 1, none⟩ (.int .u64 t209)).heap[gb206]? = some (.cells #[.bool a1_0, .int .u64 a1_1, .int .u64 a1_2] 90 (0, 0))) := bu_ BK206
   have n2_ : Aside0 (((w47.setCell ⟨gb210, 0, none⟩ (.int .u64 t208)).setCell ⟨gb210, 1, none⟩ (.int .u64 t209)).heap[gb207]? = some (.cells #[.int .i64 0, .int .i64 0] 23 (0, 0))) := bu_ BK207
   have n3_ : Aside0 (((w47.setCell ⟨gb210, 0, none⟩ (.int .u64 t208)).setCell ⟨gb210, 1, none⟩ (.int .u64 t209)).heap[gb210]? = some (.cells #[.int .u64 t208, .int .u64 t209] 88 (0, 0))) := bq_ BK210
   have n4_ : Aside0 (Below w.heap.size w ((w47.setCell ⟨gb210, 0, none⟩ (.int .u64 t208)).setCell ⟨gb210, 1, none⟩ (.int .u64 t209))) := ⟨bf HB⟩
   (try clear BK205); (try clear BK206); (try clear BK207); (try clear BK210); (try clear HB)
   generalize ((w47.setCell ⟨gb210, 0, none⟩ (.int .u64 t208)).setCell ⟨gb210, 1, none⟩ (.int .u64 t209)) = w52 at n0_ n1_ n2_ n3_ n4_ ⊢
   have BK205 := n0_
   have BK206 := n1_
   have BK207 := n2_
   have BK210 := n3_
   have HB := n4_
   clear n0_ n1_ n2_ n3_ n4_
   replace BK205 := Aside0.mk (blk_drew BK205.out)
   replace BK206 := Aside0.mk (blk_drew BK206.out)
   replace BK207 := Aside0.mk (blk_drew BK207.out)
   replace BK210 := Aside0.mk (blk_drew BK210.out)
   replace HB := Aside0.mk (below_drew1 HB.out)
   refine start_ (n := 12) (S := fun w' => c_ w' gb205 0 (.bool a0_0) ∧ c_ w' gb205 1 (.int .u64 a0_1) ∧ c_ w' gb205 2 (.int .u64 a0_2) ∧ c_ w' gb210 0 (.int .u64 t208) ∧ c_ w' gb210 1 (.int .u64 t209) ∧ c_ w' gb206 0 (.bool a1_0) ∧ c_ w' gb206 1 (.int .u64 a1_1) ∧ c_ w' gb206 2 (.int .u64 a1_2)) (ds := [9, 11]) (m_ 12 0) (by kernel_rfl) rfl rfl ⟨ct BK205 0, ct BK205 1, ct BK205 2, ct BK210 0, ct BK210 1, ct BK206 0, ct BK206 1, ct BK206 2⟩ (fun hHeld => ?_); refine with_tabW frac_reduced.tab2 frac_reduced.bits2 (fun HT_ HW_ => ?_)
   generalize w52.drew = w53 at BK205 BK206 BK207 BK210 HB hHeld ⊢
   refine pu_ 0 (some 16) (m_ 12 1) rfl rfl (ao HT_) ?_
   refine pu_ 4 (some 20) (m_ 12 17) rfl rfl (ao HT_) ?_
   refine tk_ 1 (some 17) (m_ 12 19) rfl rfl (tw HT_ HW_) hHeld ?_
   refine tk_ 2 (some 18) (m_ 12 23) rfl rfl (tw HT_ HW_) hHeld ?_
   refine tk_ 5 (some 21) (m_ 12 55) rfl rfl (tw HT_ HW_) hHeld ?_
   refine tk_ 6 (some 22) (m_ 12 119) rfl rfl (tw HT_ HW_) hHeld ?_
   refine o1_ 3 (some 19) (m_ 12 127) rfl rfl (oo HT_) (fun K hK => ?_)
   refine gs_ rfl Tryz.func64 (frac_wide_over.calls _ _ _ _ _ _ _ _ A4.out) ag ?_
   intro w54 hb
   replace BK205 := bb BK205 hb
   replace BK206 := bb BK206 hb
   replace BK207 := bb BK207 hb
   replace BK210 := bb BK210 hb
   replace HB := bs HB hb
   (try clear hb)
   refine hK.out _ _ ⟨ct BK205 0, ct BK205 1, ct BK205 2, ct BK210 0, ct BK210 1, ct BK206 0, ct BK206 1, ct BK206 2⟩ (fun hHeld => ?_)
   clear hK K
   refine nr_ (some 19) ?_
   refine pu_ 8 (some 24) (m_ 12 383) rfl rfl (ao HT_) ?_
   refine o1_ 7 (some 23) (m_ 12 511) rfl rfl (oo HT_) (fun K hK => ?_)
   refine gs_ rfl Tryz.func64 (frac_wide_over.calls _ _ _ _ _ _ _ _ A5.out) ag ?_
   intro w55 hb
   replace BK205 := bb BK205 hb
   replace BK206 := bb BK206 hb
   replace BK207 := bb BK207 hb
   replace BK210 := bb BK210 hb
   replace HB := bs HB hb
   (try clear hb)
   refine hK.out _ _ ⟨ct BK205 0, ct BK205 1, ct BK205 2, ct BK210 0, ct BK210 1, ct BK206 0, ct BK206 1, ct BK206 2⟩ (fun hHeld => ?_)
   clear hK K
   refine nr_ (some 23) ?_
   refine last_ (i := 9) (N := none) (m_ 12 1023) rfl rfl (one_of HT_.out (by kernel_rfl)) (by decide) (fun K hK => ?_)
   have hs56 : c_ w55 gb205 1 (.int .u64 a0_1) := ct BK205 1
   have hfs56 := blk_frozen BK205.out 1
   have hns56_1 := NB206_205.out
   have hns56_2 := NB207_205.out
   have hns56_3 := NB210_205.out
   have hms56_1 := NB205_206.out
   have hms56_2 := NB205_207.out
   have hms56_3 := NB205_210.out
   have hs57 : c_ w55 gb205 2 (.int .u64 a0_2) := ct BK205 2
   have hfs57 := blk_frozen BK205.out 2
   have hns57_1 := NB206_205.out
   have hns57_2 := NB207_205.out
   have hns57_3 := NB210_205.out
   have hms57_1 := NB205_206.out
   have hms57_2 := NB205_207.out
   have hms57_3 := NB205_210.out
   refine skip_ (w1 := ?_) (by rfl) rfl ?_ ?_
   rotate_left
   ·go_simp
    rfl
   refine hK.out _ _ ?_
   clear hK K
   refine pu_ 10 (some 25) (m_ 12 2047) rfl rfl (ao HT_) ?_
   refine last_ (i := 11) (N := none) (m_ 12 4095) rfl rfl (one_of HT_.out (by kernel_rfl)) (by decide) (fun K hK => ?_)
   have hs58 : c_ w55 gb206 1 (.int .u64 a1_1) := ct BK206 1
   have hfs58 := blk_frozen BK206.out 1
   have hns58_0 := NB205_206.out
   have hns58_2 := NB207_206.out
   have hns58_3 := NB210_206.out
   have hms58_0 := NB206_205.out
   have hms58_2 := NB206_207.out
   have hms58_3 := NB206_210.out
   have hs59 : c_ w55 gb206 2 (.int .u64 a1_2) := ct BK206 2
   have hfs59 := blk_frozen BK206.out 2
   have hns59_0 := NB205_206.out
   have hns59_2 := NB207_206.out
   have hns59_3 := NB210_206.out
   have hms59_0 := NB206_205.out
   have hms59_2 := NB206_207.out
   have hms59_3 := NB206_210.out
   refine skip_ (w1 := ?_) (by rfl) rfl ?_ ?_
   rotate_left
   ·go_simp
    rfl
   refine hK.out _ _ ?_
   clear hK K
   refine done_ (done_of HT_.out (by kernel_rfl)) ?_
   have hcz60 := X.k3 BK205
   have hcz61 := X.k3 BK206
   try go_wp2_with (first | ((with_reducible refine gc 65 rfl ?_); refine gm_ (some 35) rfl rfl Tryz.func65 (frac_signed_whole.calls (a0_0 != a1_0) _ _ _ _ _ A6.out) ag ?_; intro w62 hb; replace BK205 := bp_ #[.bool (a0_0 != a1_0), .int .u64 t211, .int .u64 t212] BK205 hb; replace BK206 := bp_ #[.bool false, .int .u64 t213, .int .u64 t214] BK206 hb; replace BK207 := bb BK207 hb; replace HB := bs HB hb; (try clear hb); have hcz63 := X.k3 BK206) | ((with_reducible refine gc 65 rfl ?_); refine gm_ (some 40) rfl rfl Tryz.func65 (frac_signed_whole.calls _ _ _ _ _ _ A7.out) ag ?_; intro w64 hb; replace BK207 := bb BK207 hb; replace HB := bs HB hb; (try clear hb); have hcz65 := X.k2 BK207))
   refine bodyPost_ret (results_ct rfl _ _ gb207 23 #[.int .i64 0, .int .i64 0] (0, 0) _ rfl (br_ BK207) Tryz.underlying23 rfl (by kernel_rfl)) rfl ?_
   exact ⟨ae, bf HB⟩
 ·replace c8 := Bool.eq_false_iff.mpr c8
  subst c8
  have H1 : (some (0, 0, 2)) = some (r1, r2, r3) := by rw [if_neg (show ¬ (false = true) by decide)] at H; exact H
  clear H
  have H := H1
  clear H1
  simp only [Option.some.injEq, Prod.mk.injEq] at H
  obtain ⟨rfl, rfl, rfl⟩ := H
  go_enter Tryz.func36, Tryz.ntmps36
  try go_wp2_with (first | ((with_reducible refine gd 2 rfl ?_); refine bx_ 2 90 #[.bool a0_0, .int .u64 a0_1, .int .u64 a0_2] rfl rfl ?_; intro gb205 hg w66 BK205 hb; have GE205 := bz HB hg; replace HB := bs HB hb; clear hb hg) | ((with_reducible refine gd 3 rfl ?_); refine bx_ 3 90 #[.bool a1_0, .int .u64 a1_1, .int .u64 a1_2] rfl rfl ?_; intro gb206 hg w67 BK206 hb; have GE206 := bz HB hg; have ⟨NB205_206, NB206_205⟩ := nb BK205 hg; replace BK205 := bb BK205 hb; replace HB := bs HB hb; clear hb hg) | ((with_reducible refine gd 4 rfl ?_); refine bx_ 4 23 #[.int .i64 0, .int .i64 0] rfl rfl ?_; intro gb207 hg w68 BK207 hb; have GE207 := bz HB hg; have ⟨NB205_207, NB207_205⟩ := nb BK205 hg; have ⟨NB206_207, NB207_206⟩ := nb BK206 hg; replace BK205 := bb BK205 hb; replace BK206 := bb BK206 hb; replace HB := bs HB hb; clear hb hg; have hnb69 := nn NB205_206; have hnb70 := nn NB205_207; have hcz71 := X.k3 BK205; have hnb72 := nn NB206_207; have hcz73 := X.k3 BK206) | ((with_reducible refine gc 63 rfl ?_); refine gm_ (some 15) rfl rfl Tryz.func63 (frac_gcd.calls _ _ _ _ _ _ _ _ A3.out (tt GT)) ag ?_; intro w74 hb; replace BK205 := bb BK205 hb; replace BK206 := bb BK206 hb; replace BK207 := bb BK207 hb; replace HB := bs HB hb; (try clear hb)) | ((with_reducible refine gd 6 rfl ?_); refine bx_ 6 88 #[.int .u64 0, .int .u64 0] rfl rfl ?_; intro gb210 hg w75 BK210 hb; have GE210 := bz HB hg; have ⟨NB205_210, NB210_205⟩ := nb BK205 hg; have ⟨NB206_210, NB210_206⟩ := nb BK206 hg; have ⟨NB207_210, NB210_207⟩ := nb BK207 hg; replace BK205 := bb BK205 hb; replace BK206 := bb BK206 hb; replace BK207 := bb BK207 hb; replace HB := bs HB hb; clear hb hg; have hnb76 := nn NB210_205; have hnb77 := nn NB210_206; have hnb78 := nn NB210_207; have hcz79 := X.k2 BK210))
  have n0_ : Aside0 (((w75.setCell ⟨gb210, 0, none⟩ (.int .u64 t208)).setCell ⟨gb210, 1, none⟩ (.int .u64 t209)).heap[gb205]? = some (.cells #[.bool a0_0, .int .u64 a0_1, .int .u64 a0_2] 90 (0, 0))) := bu_ BK205
  have n1_ : Aside0 (((w75.setCell ⟨gb210, 0, none⟩ (.int .u64 t208)).setCell ⟨gb210, 1, none⟩ (.int .u64 t209)).heap[gb206]? = some (.cells #[.bool a1_0, .int .u64 a1_1, .int .u64 a1_2] 90 (0, 0))) := bu_ BK206
  have n2_ : Aside0 (((w75.setCell ⟨gb210, 0, none⟩ (.int .u64 t208)).setCell ⟨gb210, 1, none⟩ (.int .u64 t209)).heap[gb207]? = some (.cells #[.int .i64 0, .int .i64 0] 23 (0, 0))) := bu_ BK207
  have n3_ : Aside0 (((w75.setCell ⟨gb210, 0, none⟩ (.int .u64 t208)).setCell ⟨gb210, 1, none⟩ (.int .u64 t209)).heap[gb210]? = some (.cells #[.int .u64 t208, .int .u64 t209] 88 (0, 0))) := bq_ BK210
  have n4_ : Aside0 (Below w.heap.size w ((w75.setCell ⟨gb210, 0, none⟩ (.int .u64 t208)).setCell ⟨gb210, 1, none⟩ (.int .u64 t209))) := ⟨bf HB⟩
  (try clear BK205); (try clear BK206); (try clear BK207); (try clear BK210); (try clear HB)
  generalize ((w75.setCell ⟨gb210, 0, none⟩ (.int .u64 t208)).setCell ⟨gb210, 1, none⟩ (.int .u64 t209)) = w80 at n0_ n1_ n2_ n3_ n4_ ⊢
  have BK205 := n0_
  have BK206 := n1_
  have BK207 := n2_
  have BK210 := n3_
  have HB := n4_
  clear n0_ n1_ n2_ n3_ n4_
  replace BK205 := Aside0.mk (blk_drew BK205.out)
  replace BK206 := Aside0.mk (blk_drew BK206.out)
  replace BK207 := Aside0.mk (blk_drew BK207.out)
  replace BK210 := Aside0.mk (blk_drew BK210.out)
  replace HB := Aside0.mk (below_drew1 HB.out)
  refine start_ (n := 12) (S := fun w' => c_ w' gb205 0 (.bool a0_0) ∧ c_ w' gb205 1 (.int .u64 a0_1) ∧ c_ w' gb205 2 (.int .u64 a0_2) ∧ c_ w' gb210 0 (.int .u64 t208) ∧ c_ w' gb210 1 (.int .u64 t209) ∧ c_ w' gb206 0 (.bool a1_0) ∧ c_ w' gb206 1 (.int .u64 a1_1) ∧ c_ w' gb206 2 (.int .u64 a1_2)) (ds := [9, 11]) (m_ 12 0) (by kernel_rfl) rfl rfl ⟨ct BK205 0, ct BK205 1, ct BK205 2, ct BK210 0, ct BK210 1, ct BK206 0, ct BK206 1, ct BK206 2⟩ (fun hHeld => ?_); refine with_tabW frac_reduced.tab2 frac_reduced.bits2 (fun HT_ HW_ => ?_)
  generalize w80.drew = w81 at BK205 BK206 BK207 BK210 HB hHeld ⊢
  refine pu_ 0 (some 16) (m_ 12 1) rfl rfl (ao HT_) ?_
  refine pu_ 4 (some 20) (m_ 12 17) rfl rfl (ao HT_) ?_
  refine tk_ 1 (some 17) (m_ 12 19) rfl rfl (tw HT_ HW_) hHeld ?_
  refine tk_ 2 (some 18) (m_ 12 23) rfl rfl (tw HT_ HW_) hHeld ?_
  refine tk_ 5 (some 21) (m_ 12 55) rfl rfl (tw HT_ HW_) hHeld ?_
  refine tk_ 6 (some 22) (m_ 12 119) rfl rfl (tw HT_ HW_) hHeld ?_
  refine o1_ 3 (some 19) (m_ 12 127) rfl rfl (oo HT_) (fun K hK => ?_)
  refine gs_ rfl Tryz.func64 (frac_wide_over.calls _ _ _ _ _ _ _ _ A4.out) ag ?_
  intro w82 hb
  replace BK205 := bb BK205 hb
  replace BK206 := bb BK206 hb
  replace BK207 := bb BK207 hb
  replace BK210 := bb BK210 hb
  replace HB := bs HB hb
  (try clear hb)
  refine hK.out _ _ ⟨ct BK205 0, ct BK205 1, ct BK205 2, ct BK210 0, ct BK210 1, ct BK206 0, ct BK206 1, ct BK206 2⟩ (fun hHeld => ?_)
  clear hK K
  refine nr_ (some 19) ?_
  refine pu_ 8 (some 24) (m_ 12 383) rfl rfl (ao HT_) ?_
  refine o1_ 7 (some 23) (m_ 12 511) rfl rfl (oo HT_) (fun K hK => ?_)
  refine gs_ rfl Tryz.func64 (frac_wide_over.calls _ _ _ _ _ _ _ _ A5.out) ag ?_
  intro w83 hb
  replace BK205 := bb BK205 hb
  replace BK206 := bb BK206 hb
  replace BK207 := bb BK207 hb
  replace BK210 := bb BK210 hb
  replace HB := bs HB hb
  (try clear hb)
  refine hK.out _ _ ⟨ct BK205 0, ct BK205 1, ct BK205 2, ct BK210 0, ct BK210 1, ct BK206 0, ct BK206 1, ct BK206 2⟩ (fun hHeld => ?_)
  clear hK K
  refine nr_ (some 23) ?_
  refine last_ (i := 9) (N := none) (m_ 12 1023) rfl rfl (one_of HT_.out (by kernel_rfl)) (by decide) (fun K hK => ?_)
  have hs84 : c_ w83 gb205 1 (.int .u64 a0_1) := ct BK205 1
  have hfs84 := blk_frozen BK205.out 1
  have hns84_1 := NB206_205.out
  have hns84_2 := NB207_205.out
  have hns84_3 := NB210_205.out
  have hms84_1 := NB205_206.out
  have hms84_2 := NB205_207.out
  have hms84_3 := NB205_210.out
  have hs85 : c_ w83 gb205 2 (.int .u64 a0_2) := ct BK205 2
  have hfs85 := blk_frozen BK205.out 2
  have hns85_1 := NB206_205.out
  have hns85_2 := NB207_205.out
  have hns85_3 := NB210_205.out
  have hms85_1 := NB205_206.out
  have hms85_2 := NB205_207.out
  have hms85_3 := NB205_210.out
  refine skip_ (w1 := ?_) (by rfl) rfl ?_ ?_
  rotate_left
  ·go_simp
   rfl
  refine hK.out _ _ ?_
  clear hK K
  refine pu_ 10 (some 25) (m_ 12 2047) rfl rfl (ao HT_) ?_
  refine last_ (i := 11) (N := none) (m_ 12 4095) rfl rfl (one_of HT_.out (by kernel_rfl)) (by decide) (fun K hK => ?_)
  have hs86 : c_ w83 gb206 1 (.int .u64 a1_1) := ct BK206 1
  have hfs86 := blk_frozen BK206.out 1
  have hns86_0 := NB205_206.out
  have hns86_2 := NB207_206.out
  have hns86_3 := NB210_206.out
  have hms86_0 := NB206_205.out
  have hms86_2 := NB206_207.out
  have hms86_3 := NB206_210.out
  have hs87 : c_ w83 gb206 2 (.int .u64 a1_2) := ct BK206 2
  have hfs87 := blk_frozen BK206.out 2
  have hns87_0 := NB205_206.out
  have hns87_2 := NB207_206.out
  have hns87_3 := NB210_206.out
  have hms87_0 := NB206_205.out
  have hms87_2 := NB206_207.out
  have hms87_3 := NB206_210.out
  refine skip_ (w1 := ?_) (by rfl) rfl ?_ ?_
  rotate_left
  ·go_simp
   rfl
  refine hK.out _ _ ?_
  clear hK K
  refine done_ (done_of HT_.out (by kernel_rfl)) ?_
  have hcz88 := X.k3 BK205
  have hcz89 := X.k3 BK206
  try go_wp2_with (first | ((with_reducible refine gc 65 rfl ?_); refine gm_ (some 35) rfl rfl Tryz.func65 (frac_signed_whole.calls (a0_0 != a1_0) _ _ _ _ _ A6.out) ag ?_; intro w90 hb; replace BK205 := bp_ #[.bool (a0_0 != a1_0), .int .u64 t211, .int .u64 t212] BK205 hb; replace BK206 := bp_ #[.bool false, .int .u64 t213, .int .u64 t214] BK206 hb; replace BK207 := bb BK207 hb; replace HB := bs HB hb; (try clear hb); have hcz91 := X.k3 BK206) | ((with_reducible refine gc 65 rfl ?_); refine gm_ (some 40) rfl rfl Tryz.func65 (frac_signed_whole.calls _ _ _ _ _ _ A7.out) ag ?_; intro w92 hb; replace BK207 := bb BK207 hb; replace HB := bs HB hb; (try clear hb); have hcz93 := X.k2 BK207))
  refine bodyPost_ret (results_ct rfl _ _ gb207 23 #[.int .i64 0, .int .i64 0] (0, 0) _ rfl (br_ BK207) Tryz.underlying23 rfl (by kernel_rfl)) rfl ?_
  exact ⟨ae, bf HB⟩

/-! ### frac_sized: function 37 -/
theorem frac_sized.calls (a0 : Int) (r1 : Bool) (r2 : Int) (r3 : Int) (w : World) (h : frac_sized.f a0 = some (r1, r2, r3)) :
  Calls Tryz.prog 37 #[.int .i64 a0] w fun e w' => e = .returned (.agg #[.bool r1, .int .u64 r2, .int .u64 r3]) ∧ Below w.heap.size w w' := by
 have hu90 := Tryz.underlying90
 have hu88 := Tryz.underlying88
 have HB := Aside0.mk (Below.refl w.heap.size w)
 have H : (if a0 < 0 then (some (true, 0, IntKind.u64.wrap (-(IntKind.u64.wrap (a0))))) else (some (false, 0, IntKind.u64.wrap (a0)))) = some (r1, r2, r3) := h
 clear h
 by_cases c2 : a0 < 0
 ·rw [if_pos c2] at H
  have c2b0 : decide (a0 < 0) = true := decide_eq_true c2
  clear c2
  simp only [Option.some.injEq, Prod.mk.injEq] at H
  obtain ⟨rfl, rfl, rfl⟩ := H
  go_enter Tryz.func37, Tryz.ntmps37
  go_wp2_with (first | ((with_reducible refine gd 2 rfl ?_); refine bx_ 2 90 #[.bool false, .int .u64 0, .int .u64 0] rfl rfl ?_; intro gb219 hg w3 BK219 hb; have GE219 := bz HB hg; replace HB := bs HB hb; clear hb hg; have hcz4 := X.k3 BK219))
  refine bodyPost_ret (results_cell_row rfl _ _ gb219 90 #[.bool true, .int .u64 0, .int .u64 (IntKind.u64.wrap (-(IntKind.u64.wrap (a0))))] (0, 0) _ rfl (br_ BK219) Tryz.underlying90 rfl (by kernel_rfl)) rfl ?_
  exact ⟨ae, bf HB⟩
 ·rw [if_neg c2] at H
  have c2b0 : decide (a0 < 0) = false := decide_eq_false c2
  clear c2
  simp only [Option.some.injEq, Prod.mk.injEq] at H
  obtain ⟨rfl, rfl, rfl⟩ := H
  go_enter Tryz.func37, Tryz.ntmps37
  go_wp2_with (first | ((with_reducible refine gd 2 rfl ?_); refine bx_ 2 90 #[.bool false, .int .u64 0, .int .u64 0] rfl rfl ?_; intro gb219 hg w5 BK219 hb; have GE219 := bz HB hg; replace HB := bs HB hb; clear hb hg; have hcz6 := X.k3 BK219))
  refine bodyPost_ret (results_cell_row rfl _ _ gb219 90 #[.bool false, .int .u64 0, .int .u64 (IntKind.u64.wrap (a0))] (0, 0) _ rfl (br_ BK219) Tryz.underlying90 rfl (by kernel_rfl)) rfl ?_
  exact ⟨ae, bf HB⟩

/-! ### frac_Of: function 31 -/
theorem frac_Of.calls (k : Nat) (a0 : Int) (a1 : Int) (r1 : Int) (r2 : Int) (r3 : Int) (w : World) (h : frac_Of.f k a0 a1 = some (r1, r2, r3)) (hT : TabOK w) :
  Calls Tryz.prog 31 #[.int .i64 a0, .int .i64 a1] w fun e w' => e = .returned (.tuple #[.agg #[.int .i64 r1, .int .i64 r2], .int .i64 r3]) ∧ Below w.heap.size w w' := by
 have GT := Aside0.mk hT
 clear hT
 have hu23 := Tryz.underlying23
 have HB := Aside0.mk (Below.refl w.heap.size w)
 have H : (if a1 = 0 then (some (0, 0, 3)) else ((frac_sized.f a0).bind fun bt221 => ((frac_sized.f a1).bind fun bt224 => ((frac_reduced.f k bt221.1 bt221.2.1 bt221.2.2 bt224.1 bt224.2.1 bt224.2.2).bind fun bt227 => (some (bt227.1, bt227.2.1, bt227.2.2)))))) = some (r1, r2, r3) := h
 clear h
 by_cases c3 : a1 = 0
 ·rw [if_pos c3] at H
  have c3b0 : (a1 == 0) = true := beq_iff_eq.mpr c3
  have c3b1 : (a1 != 0) = false := bne_eq_false_iff_eq.mpr c3
  clear c3
  simp only [Option.some.injEq, Prod.mk.injEq] at H
  obtain ⟨rfl, rfl, rfl⟩ := H
  go_enter Tryz.func31, Tryz.ntmps31
  go_wp2_with (first | ((with_reducible refine gd 4 rfl ?_); refine bx_ 4 23 #[.int .i64 0, .int .i64 0] rfl rfl ?_; intro gb220 hg w4 BK220 hb; have GE220 := bz HB hg; replace HB := bs HB hb; clear hb hg; have hcz5 := X.k2 BK220))
  refine bodyPost_ret (results_ct rfl _ _ gb220 23 #[.int .i64 0, .int .i64 0] (0, 0) _ rfl (br_ BK220) Tryz.underlying23 rfl (by kernel_rfl)) rfl ?_
  exact ⟨ae, bf HB⟩
 ·rw [if_neg c3] at H
  have c3b0 : (a1 == 0) = false := beq_eq_false_iff_ne.mpr c3
  have c3b1 : (a1 != 0) = true := bne_iff_ne.mpr c3
  replace H := bi_ H; obtain ⟨⟨t221, t222, t223⟩, A6, H⟩ := H
  (try dsimp only at H)
  replace H := bi_ H; obtain ⟨⟨t224, t225, t226⟩, A7, H⟩ := H
  (try dsimp only at H)
  replace H := bi_ H; obtain ⟨⟨t227, t228, t229⟩, A8, H⟩ := H
  (try dsimp only at H)
  simp only [Option.some.injEq, Prod.mk.injEq] at H
  obtain ⟨rfl, rfl, rfl⟩ := H
  go_enter Tryz.func31, Tryz.ntmps31
  go_wp2_with (first | ((with_reducible refine gd 4 rfl ?_); refine bx_ 4 23 #[.int .i64 0, .int .i64 0] rfl rfl ?_; intro gb220 hg w9 BK220 hb; have GE220 := bz HB hg; replace HB := bs HB hb; clear hb hg) | ((with_reducible refine gc 37 rfl ?_); refine gm_ (some 10) rfl rfl Tryz.func37 (frac_sized.calls _ _ _ _ _ A6.out) ag ?_; intro w10 hb; replace BK220 := bb BK220 hb; replace HB := bs HB hb; (try clear hb)) | ((with_reducible refine gc 37 rfl ?_); refine gm_ (some 12) rfl rfl Tryz.func37 (frac_sized.calls _ _ _ _ _ A7.out) ag ?_; intro w11 hb; replace BK220 := bb BK220 hb; replace HB := bs HB hb; (try clear hb)) | ((with_reducible refine gc 36 rfl ?_); refine gm_ (some 13) rfl rfl Tryz.func36 (frac_reduced.calls _ _ _ _ _ _ _ _ _ _ _ A8.out (tt GT)) ag ?_; intro w12 hb; replace BK220 := bb BK220 hb; replace HB := bs HB hb; (try clear hb); have hcz13 := X.k2 BK220))
  refine bodyPost_ret (results_ct rfl _ _ gb220 23 #[.int .i64 t227, .int .i64 t228] (0, 0) _ rfl (br_ BK220) Tryz.underlying23 rfl (by kernel_rfl)) rfl ?_
  exact ⟨ae, bf HB⟩

/-! ### demand_volume_1: function 30 -/
theorem demand_volume_1.calls (k : Nat) (a0_0 : Int) (a0_1 : Int) (r1 : Int) (r2 : Int) (r3 : Int) (w : World) (h : demand_volume_1.f k a0_0 a0_1 = some (r1, r2, r3)) (hT : TabOK w) :
  Calls Tryz.prog 30 #[.agg #[.int .i64 a0_0, .int .i64 a0_1]] w fun e w' => e = .returned (.tuple #[.agg #[.int .i64 r1, .int .i64 r2], .int .i64 r3]) ∧ Below w.heap.size w w' := by
 have GT := Aside0.mk hT
 clear hT
 have hu23 := Tryz.underlying23
 have HB := Aside0.mk (Below.refl w.heap.size w)
 have H : ((frac_Of.f k a0_0 a0_1).bind fun bt232 => (some (bt232.1, bt232.2.1, bt232.2.2))) = some (r1, r2, r3) := h
 clear h
 replace H := bi_ H; obtain ⟨⟨t232, t233, t234⟩, A2, H⟩ := H
 (try dsimp only at H)
 simp only [Option.some.injEq, Prod.mk.injEq] at H
 obtain ⟨rfl, rfl, rfl⟩ := H
 go_enter Tryz.func30, Tryz.ntmps30
 go_wp2_with (first | ((with_reducible refine gd 1 rfl ?_); refine bx_ 1 23 #[.int .i64 a0_0, .int .i64 a0_1] rfl rfl ?_; intro gb230 hg w3 BK230 hb; have GE230 := bz HB hg; replace HB := bs HB hb; clear hb hg) | ((with_reducible refine gd 2 rfl ?_); refine bx_ 2 23 #[.int .i64 0, .int .i64 0] rfl rfl ?_; intro gb231 hg w4 BK231 hb; have GE231 := bz HB hg; have ⟨NB230_231, NB231_230⟩ := nb BK230 hg; replace BK230 := bb BK230 hb; replace HB := bs HB hb; clear hb hg; have hnb5 := nn NB230_231; have hcz6 := X.k2 BK230) | ((with_reducible refine gc 31 rfl ?_); refine gm_ (some 8) rfl rfl Tryz.func31 (frac_Of.calls _ _ _ _ _ _ _ A2.out (tt GT)) ag ?_; intro w7 hb; replace BK231 := bb BK231 hb; replace HB := bs HB hb; (try clear hb); have hcz8 := X.k2 BK231))
 refine bodyPost_ret (results_ct rfl _ _ gb231 23 #[.int .i64 t232, .int .i64 t233] (0, 0) _ rfl (br_ BK231) Tryz.underlying23 rfl (by kernel_rfl)) rfl ?_
 exact ⟨ae, bf HB⟩

end Go.Proofs.YtfhokgkpcphmlaaGreatDoor.X
