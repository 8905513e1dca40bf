/- Walks: each '.calls' says that the Go function comes to what its Lean function tells. Conditions: as each theorem's head says. -/
import Derived.Test.YtjgnaccamakpdaaDoorXD
import Derived.Test.YtjgnaccamakpdaaDoorX0
import Derived.Test.YtjgnaccamakpdaaDoorX1
import Derived.Test.YtjgnaccamakpdaaDoorX8
import Derived.Test.YtjgnaccamakpdaaDoorX11
import Derived.Test.YtjgnaccamakpdaaDoorX15
import Derived.Test.YtjgnaccamakpdaaDoorX18
namespace Go.Proofs.YtjgnaccamakpdaaDoor.X
open Go.RowKit Go.Proofs.YtjgnaccamakpdaaDoorW.PrintWords Go.Proofs.YtjgnaccamakpdaaDoorW.PrintLast Go.Proofs.YtjgnaccamakpdaaDoorW.PrintMore
attribute [local go_sem] max2_int min2_int max_two min_two max_three min_three max_four min_four   -- for this text's walks alone
set_option linter.unusedVariables false
set_option maxHeartbeats 8000000
set_option maxRecDepth 100000
set_option linter.unusedSimpArgs false

attribute [local go_sem high] eqA23
/-! ### carrefourref02_Sub: function 13 -/
def carrefourref02_Sub.T8 : Bool × List (List Nat × List Nat) := (true, [([], []), ([0], [0]), ([], []), ([1, 2, 1], [1, 2]), ([3], [3]), ([3], [3]), ([4, 3, 0, 1, 2, 3, 4, 5], [4]), ([5, 6, 0, 1, 2, 3, 4, 5, 6], [5])])
def carrefourref02_Sub.B8 : List Nat := [0, 1, 0, 7, 15, 15, 63, 127]
theorem carrefourref02_Sub.tab8 : rtab .any (opsOf Tryd.f13 8) = carrefourref02_Sub.T8 := by kernel_rfl
theorem carrefourref02_Sub.bits8 : waitsOk carrefourref02_Sub.T8.2 carrefourref02_Sub.B8 = true := by kernel_rfl
theorem carrefourref02_Sub.calls (k : Nat) (a0_0 : Int) (a0_1 : Int) (a1_0 : Int) (a1_1 : Int) (r1 : Int) (r2 : Int) (r3 : Int) (w : World) (h : carrefourref02_Sub.f k a0_0 a0_1 a1_0 a1_1 = some (r1, r2, r3)) :
    Calls Tryd.prog 13 #[.agg #[.int .i64 a0_0, .int .i64 a0_1], .agg #[.int .i64 a1_0, .int .i64 a1_1]] w fun e w' => e = .returned (.tuple #[.agg #[.int .i64 r1, .int .i64 r2], .int .i64 r3]) ∧ Below w.heap.size w w' := by
  have hu23 := Tryd.underlying23
  have HB := Aside0.mk (Below.refl w.heap.size w)
  have H : ((carrefourref02_Norm.f k a1_0 a1_1).bind fun bt586 => ((carrefourref02_minus.f bt586.1 bt586.2).bind fun bt588 => (if bt588.2.2 = true then ((carrefourref02_Add.f k a0_0 a0_1 bt588.1 bt588.2.1).bind fun bt592 => (some (bt592.1, bt592.2.1, bt592.2.2))) else (if (Int.tmod bt586.2 2) = 0 then (some (0, 0, 2)) else ((carrefourref02_Norm.f k a0_0 a0_1).bind fun bt596 => ((carrefourref02_twiceAdded.f k bt596.1 bt596.2 4611686018427387904 bt586.2).bind fun bt598 => (some (bt598.1, bt598.2.1, bt598.2.2)))))))) = some (r1, r2, r3) := h
  clear h
  replace H := bi_ H; obtain ⟨⟨t586, t587⟩, A3, H⟩ := H
  (try dsimp only at H)
  replace H := bi_ H; obtain ⟨⟨t588, t589, t590⟩, A4, H⟩ := H
  (try dsimp only at H)
  by_cases c5 : t590 = true
  · subst c5
    have H1 : ((carrefourref02_Add.f k a0_0 a0_1 t588 t589).bind fun bt592 => (some (bt592.1, bt592.2.1, bt592.2.2))) = some (r1, r2, r3) := by rw [if_pos rfl] at H; exact H
    clear H
    have H := H1
    clear H1
    replace H := bi_ H; obtain ⟨⟨t592, t593, t594⟩, A6, H⟩ := H
    (try dsimp only at H)
    simp only [Option.some.injEq, Prod.mk.injEq] at H
    obtain ⟨rfl, rfl, rfl⟩ := H
    go_enter Tryd.func13, Tryd.ntmps13
    go_wp2_with (first | ((with_reducible refine gd 2 rfl ?_); refine bx_ 2 23 #[.int .i64 a0_0, .int .i64 a0_1] rfl rfl ?_; intro gb583 hg w7 BK583 hb; have GE583 := bz HB hg; replace HB := bs HB hb; clear hb hg) | ((with_reducible refine gd 3 rfl ?_); refine bx_ 3 23 #[.int .i64 a1_0, .int .i64 a1_1] rfl rfl ?_; intro gb584 hg w8 BK584 hb; have GE584 := bz HB hg; have ⟨NB583_584, NB584_583⟩ := nb BK583 hg; replace BK583 := bb BK583 hb; replace HB := bs HB hb; clear hb hg) | ((with_reducible refine gd 4 rfl ?_); refine bx_ 4 23 #[.int .i64 0, .int .i64 0] rfl rfl ?_; intro gb585 hg w9 BK585 hb; have GE585 := bz HB hg; have ⟨NB583_585, NB585_583⟩ := nb BK583 hg; have ⟨NB584_585, NB585_584⟩ := nb BK584 hg; replace BK583 := bb BK583 hb; replace BK584 := bb BK584 hb; replace HB := bs HB hb; clear hb hg; have hnb10 := nn NB584_583; have hnb11 := nn NB584_585; have hcz12 := k2 BK584) | ((with_reducible refine gc 39 rfl ?_); refine gm_ (some 10) rfl rfl Tryd.func39 (carrefourref02_Norm.calls _ _ _ _ _ _ A3.out) ag ?_; intro w13 hb; replace BK583 := bb BK583 hb; replace BK584 := bb BK584 hb; replace BK585 := bb BK585 hb; replace HB := bs HB hb; (try clear hb); have hcz14 := k2 BK584) | ((with_reducible refine gc 49 rfl ?_); refine gm_ (some 13) rfl rfl Tryd.func49 (carrefourref02_minus.calls _ _ _ _ _ _ A4.out) ag ?_; intro w15 hb; replace BK583 := bb BK583 hb; replace BK584 := bp_ #[.int .i64 t586, .int .i64 t587] BK584 hb; replace BK585 := bb BK585 hb; replace HB := bs HB hb; (try clear hb)) | ((with_reducible refine gd 6 rfl ?_); refine bx_ 6 23 #[.int .i64 0, .int .i64 0] rfl rfl ?_; intro gb591 hg w16 BK591 hb; have GE591 := bz HB hg; have ⟨NB583_591, NB591_583⟩ := nb BK583 hg; have ⟨NB584_591, NB591_584⟩ := nb BK584 hg; have ⟨NB585_591, NB591_585⟩ := nb BK585 hg; replace BK583 := bb BK583 hb; replace BK585 := bb BK585 hb; replace HB := bs HB hb; clear hb hg; have hnb17 := nn NB591_583; have hnb18 := nn NB591_584; have hnb19 := nn NB591_585; have hcz20 := k2 BK591; have hnb21 := nn NB583_585; have hcz22 := k2 BK583) | ((with_reducible refine gc 11 rfl ?_); refine gm_ (some 19) rfl rfl Tryd.func11 (carrefourref02_Add.calls _ _ _ _ _ _ _ _ _ A6.out) ag ?_; intro w23 hb; replace BK585 := bb BK585 hb; replace BK591 := bp_ #[.int .i64 t588, .int .i64 t589] BK591 hb; replace HB := bs HB hb; (try clear hb); have hcz24 := k2 BK585))
    refine bodyPost_ret (results_ct rfl _ _ gb585 23 #[.int .i64 t592, .int .i64 t593] (0, 0) _ rfl (br_ BK585) Tryd.underlying23 rfl (by kernel_rfl)) rfl ?_
    exact ⟨ae, bf HB⟩
  · replace c5 := Bool.eq_false_iff.mpr c5
    subst c5
    have H1 : (if (Int.tmod t587 2) = 0 then (some (0, 0, 2)) else ((carrefourref02_Norm.f k a0_0 a0_1).bind fun bt596 => ((carrefourref02_twiceAdded.f k bt596.1 bt596.2 4611686018427387904 t587).bind fun bt598 => (some (bt598.1, bt598.2.1, bt598.2.2))))) = some (r1, r2, r3) := by rw [if_neg (show ¬ (false = true) by decide)] at H; exact H
    clear H
    have H := H1
    clear H1
    by_cases c25 : (Int.tmod t587 2) = 0
    · rw [if_pos c25] at H
      have c25b0 : ((Int.tmod t587 2) == 0) = true := beq_iff_eq.mpr c25
      have c25b1 : ((Int.tmod t587 2) != 0) = false := bne_eq_false_iff_eq.mpr c25
      clear c25
      simp only [Option.some.injEq, Prod.mk.injEq] at H
      obtain ⟨rfl, rfl, rfl⟩ := H
      go_enter Tryd.func13, Tryd.ntmps13
      go_wp2_with (first | ((with_reducible refine gd 2 rfl ?_); refine bx_ 2 23 #[.int .i64 a0_0, .int .i64 a0_1] rfl rfl ?_; intro gb583 hg w26 BK583 hb; have GE583 := bz HB hg; replace HB := bs HB hb; clear hb hg) | ((with_reducible refine gd 3 rfl ?_); refine bx_ 3 23 #[.int .i64 a1_0, .int .i64 a1_1] rfl rfl ?_; intro gb584 hg w27 BK584 hb; have GE584 := bz HB hg; have ⟨NB583_584, NB584_583⟩ := nb BK583 hg; replace BK583 := bb BK583 hb; replace HB := bs HB hb; clear hb hg) | ((with_reducible refine gd 4 rfl ?_); refine bx_ 4 23 #[.int .i64 0, .int .i64 0] rfl rfl ?_; intro gb585 hg w28 BK585 hb; have GE585 := bz HB hg; have ⟨NB583_585, NB585_583⟩ := nb BK583 hg; have ⟨NB584_585, NB585_584⟩ := nb BK584 hg; replace BK583 := bb BK583 hb; replace BK584 := bb BK584 hb; replace HB := bs HB hb; clear hb hg; have hnb29 := nn NB584_583; have hnb30 := nn NB584_585; have hcz31 := k2 BK584) | ((with_reducible refine gc 39 rfl ?_); refine gm_ (some 10) rfl rfl Tryd.func39 (carrefourref02_Norm.calls _ _ _ _ _ _ A3.out) ag ?_; intro w32 hb; replace BK583 := bb BK583 hb; replace BK584 := bb BK584 hb; replace BK585 := bb BK585 hb; replace HB := bs HB hb; (try clear hb); have hcz33 := k2 BK584) | ((with_reducible refine gc 49 rfl ?_); refine gm_ (some 13) rfl rfl Tryd.func49 (carrefourref02_minus.calls _ _ _ _ _ _ A4.out) ag ?_; intro w34 hb; replace BK583 := bb BK583 hb; replace BK584 := bp_ #[.int .i64 t586, .int .i64 t587] BK584 hb; replace BK585 := bb BK585 hb; replace HB := bs HB hb; (try clear hb)) | ((with_reducible refine gd 6 rfl ?_); refine bx_ 6 23 #[.int .i64 0, .int .i64 0] rfl rfl ?_; intro gb591 hg w35 BK591 hb; have GE591 := bz HB hg; have ⟨NB583_591, NB591_583⟩ := nb BK583 hg; have ⟨NB584_591, NB591_584⟩ := nb BK584 hg; have ⟨NB585_591, NB591_585⟩ := nb BK585 hg; replace BK583 := bb BK583 hb; replace BK584 := bb BK584 hb; replace BK585 := bb BK585 hb; replace HB := bs HB hb; clear hb hg; have hnb36 := nn NB591_583; have hnb37 := nn NB591_584; have hnb38 := nn NB591_585; have hcz39 := k2 BK591; have hcz40 := k2 BK584) | ((with_reducible refine gd 8 rfl ?_); refine bx_ 8 23 #[.int .i64 0, .int .i64 0] rfl rfl ?_; intro gb595 hg w41 BK595 hb; have GE595 := bz HB hg; have ⟨NB583_595, NB595_583⟩ := nb BK583 hg; have ⟨NB584_595, NB595_584⟩ := nb BK584 hg; have ⟨NB585_595, NB595_585⟩ := nb BK585 hg; have NB591_595 := Aside0.mk ((by rw [hg]; exact Nat.ne_of_lt (blk_lt (g := gb591) (o := .cells #[.int .i64 t588, .int .i64 t589] 23 (0, 0)) (br_ BK591)) : gb591 ≠ gb595)); have NB595_591 := Aside0.mk ((by rw [hg]; exact Nat.ne_of_gt (blk_lt (g := gb591) (o := .cells #[.int .i64 t588, .int .i64 t589] 23 (0, 0)) (br_ BK591)) : gb595 ≠ gb591)); replace BK584 := bb BK584 hb; replace BK585 := bb BK585 hb; replace BK591 := bp_ #[.int .i64 t588, .int .i64 t589] BK591 hb; replace HB := bs HB hb; clear hb hg; have hnb42 := nn NB595_583; have hnb43 := nn NB595_584; have hnb44 := nn NB595_585; have hnb45 := nn NB595_591; have hcz46 := k2 BK595; have hcz47 := k2 BK584; have hnb48 := nn NB585_583; have hcz49 := k2 BK585))
      refine bodyPost_ret (results_ct rfl _ _ gb585 23 #[.int .i64 0, .int .i64 0] (0, 0) _ rfl (br_ BK585) Tryd.underlying23 rfl (by kernel_rfl)) rfl ?_
      exact ⟨ae, bf HB⟩
    · rw [if_neg c25] at H
      have c25b0 : ((Int.tmod t587 2) == 0) = false := beq_eq_false_iff_ne.mpr c25
      have c25b1 : ((Int.tmod t587 2) != 0) = true := bne_iff_ne.mpr c25
      replace H := bi_ H; obtain ⟨⟨t596, t597⟩, A50, H⟩ := H
      (try dsimp only at H)
      replace H := bi_ H; obtain ⟨⟨t598, t599, t600⟩, A51, H⟩ := H
      (try dsimp only at H)
      simp only [Option.some.injEq, Prod.mk.injEq] at H
      obtain ⟨rfl, rfl, rfl⟩ := H
      go_enter Tryd.func13, Tryd.ntmps13
      try go_wp2_with (first | ((with_reducible refine gd 2 rfl ?_); refine bx_ 2 23 #[.int .i64 a0_0, .int .i64 a0_1] rfl rfl ?_; intro gb583 hg w52 BK583 hb; have GE583 := bz HB hg; replace HB := bs HB hb; clear hb hg) | ((with_reducible refine gd 3 rfl ?_); refine bx_ 3 23 #[.int .i64 a1_0, .int .i64 a1_1] rfl rfl ?_; intro gb584 hg w53 BK584 hb; have GE584 := bz HB hg; have ⟨NB583_584, NB584_583⟩ := nb BK583 hg; replace BK583 := bb BK583 hb; replace HB := bs HB hb; clear hb hg) | ((with_reducible refine gd 4 rfl ?_); refine bx_ 4 23 #[.int .i64 0, .int .i64 0] rfl rfl ?_; intro gb585 hg w54 BK585 hb; have GE585 := bz HB hg; have ⟨NB583_585, NB585_583⟩ := nb BK583 hg; have ⟨NB584_585, NB585_584⟩ := nb BK584 hg; replace BK583 := bb BK583 hb; replace BK584 := bb BK584 hb; replace HB := bs HB hb; clear hb hg; have hnb55 := nn NB584_583; have hnb56 := nn NB584_585; have hcz57 := k2 BK584) | ((with_reducible refine gc 39 rfl ?_); refine gm_ (some 10) rfl rfl Tryd.func39 (carrefourref02_Norm.calls _ _ _ _ _ _ A3.out) ag ?_; intro w58 hb; replace BK583 := bb BK583 hb; replace BK584 := bb BK584 hb; replace BK585 := bb BK585 hb; replace HB := bs HB hb; (try clear hb); have hcz59 := k2 BK584) | ((with_reducible refine gc 49 rfl ?_); refine gm_ (some 13) rfl rfl Tryd.func49 (carrefourref02_minus.calls _ _ _ _ _ _ A4.out) ag ?_; intro w60 hb; replace BK583 := bb BK583 hb; replace BK584 := bp_ #[.int .i64 t586, .int .i64 t587] BK584 hb; replace BK585 := bb BK585 hb; replace HB := bs HB hb; (try clear hb)) | ((with_reducible refine gd 6 rfl ?_); refine bx_ 6 23 #[.int .i64 0, .int .i64 0] rfl rfl ?_; intro gb591 hg w61 BK591 hb; have GE591 := bz HB hg; have ⟨NB583_591, NB591_583⟩ := nb BK583 hg; have ⟨NB584_591, NB591_584⟩ := nb BK584 hg; have ⟨NB585_591, NB591_585⟩ := nb BK585 hg; replace BK583 := bb BK583 hb; replace BK584 := bb BK584 hb; replace BK585 := bb BK585 hb; replace HB := bs HB hb; clear hb hg; have hnb62 := nn NB591_583; have hnb63 := nn NB591_584; have hnb64 := nn NB591_585; have hcz65 := k2 BK591; have hcz66 := k2 BK584) | ((with_reducible refine gd 8 rfl ?_); refine bx_ 8 23 #[.int .i64 0, .int .i64 0] rfl rfl ?_; intro gb595 hg w67 BK595 hb; have GE595 := bz HB hg; have ⟨NB583_595, NB595_583⟩ := nb BK583 hg; have ⟨NB584_595, NB595_584⟩ := nb BK584 hg; have ⟨NB585_595, NB595_585⟩ := nb BK585 hg; have NB591_595 := Aside0.mk ((by rw [hg]; exact Nat.ne_of_lt (blk_lt (g := gb591) (o := .cells #[.int .i64 t588, .int .i64 t589] 23 (0, 0)) (br_ BK591)) : gb591 ≠ gb595)); have NB595_591 := Aside0.mk ((by rw [hg]; exact Nat.ne_of_gt (blk_lt (g := gb591) (o := .cells #[.int .i64 t588, .int .i64 t589] 23 (0, 0)) (br_ BK591)) : gb595 ≠ gb591)); replace BK583 := bb BK583 hb; replace BK584 := bb BK584 hb; replace BK585 := bb BK585 hb; replace BK591 := bp_ #[.int .i64 t588, .int .i64 t589] BK591 hb; replace HB := bs HB hb; clear hb hg; have hnb68 := nn NB595_583; have hnb69 := nn NB595_584; have hnb70 := nn NB595_585; have hnb71 := nn NB595_591; have hcz72 := k2 BK595; have hcz73 := k2 BK584))
      have n0_ : Aside0 (((w67.setCell ⟨gb595, 0, none⟩ (.int .i64 4611686018427387904)).setCell ⟨gb595, 1, none⟩ (.int .i64 t587)).heap[gb583]? = some (.cells #[.int .i64 a0_0, .int .i64 a0_1] 23 (0, 0))) := bu_ BK583
      have n1_ : Aside0 (((w67.setCell ⟨gb595, 0, none⟩ (.int .i64 4611686018427387904)).setCell ⟨gb595, 1, none⟩ (.int .i64 t587)).heap[gb584]? = some (.cells #[.int .i64 t586, .int .i64 t587] 23 (0, 0))) := bu_ BK584
      have n2_ : Aside0 (((w67.setCell ⟨gb595, 0, none⟩ (.int .i64 4611686018427387904)).setCell ⟨gb595, 1, none⟩ (.int .i64 t587)).heap[gb585]? = some (.cells #[.int .i64 0, .int .i64 0] 23 (0, 0))) := bu_ BK585
      have n3_ : Aside0 (((w67.setCell ⟨gb595, 0, none⟩ (.int .i64 4611686018427387904)).setCell ⟨gb595, 1, none⟩ (.int .i64 t587)).heap[gb591]? = some (.cells #[.int .i64 t588, .int .i64 t589] 23 (0, 0))) := bu_ BK591
      have n4_ : Aside0 (((w67.setCell ⟨gb595, 0, none⟩ (.int .i64 4611686018427387904)).setCell ⟨gb595, 1, none⟩ (.int .i64 t587)).heap[gb595]? = some (.cells #[.int .i64 4611686018427387904, .int .i64 t587] 23 (0, 0))) := bq_ BK595
      have n5_ : Aside0 (Below w.heap.size w ((w67.setCell ⟨gb595, 0, none⟩ (.int .i64 4611686018427387904)).setCell ⟨gb595, 1, none⟩ (.int .i64 t587))) := ⟨bf HB⟩
      (try clear BK583); (try clear BK584); (try clear BK585); (try clear BK591); (try clear BK595); (try clear HB)
      generalize ((w67.setCell ⟨gb595, 0, none⟩ (.int .i64 4611686018427387904)).setCell ⟨gb595, 1, none⟩ (.int .i64 t587)) = w74 at n0_ n1_ n2_ n3_ n4_ n5_ ⊢
      have BK583 := n0_
      have BK584 := n1_
      have BK585 := n2_
      have BK591 := n3_
      have BK595 := n4_
      have HB := n5_
      clear n0_ n1_ n2_ n3_ n4_ n5_
      replace BK583 := Aside0.mk (blk_drew BK583.out)
      replace BK584 := Aside0.mk (blk_drew BK584.out)
      replace BK585 := Aside0.mk (blk_drew BK585.out)
      replace BK591 := Aside0.mk (blk_drew BK591.out)
      replace BK595 := Aside0.mk (blk_drew BK595.out)
      replace HB := Aside0.mk (below_drew1 HB.out)
      refine start_ (n := 8) (S := fun w' => c_ w' gb583 0 (.int .i64 a0_0) ∧ c_ w' gb583 1 (.int .i64 a0_1) ∧ c_ w' gb595 0 (.int .i64 4611686018427387904) ∧ c_ w' gb595 1 (.int .i64 t587)) (ds := []) (m_ 8 0) (by kernel_rfl) rfl rfl ⟨ct BK583 0, ct BK583 1, ct BK595 0, ct BK595 1⟩ (fun hHeld => ?_); refine with_tabW carrefourref02_Sub.tab8 carrefourref02_Sub.bits8 (fun HT_ HW_ => ?_)
      generalize w74.drew = w75 at BK583 BK584 BK585 BK591 BK595 HB hHeld ⊢
      refine tk_ 0 (some 30) (m_ 8 1) rfl rfl (tw HT_ HW_) hHeld ?_
      refine tk_ 2 (some 32) (m_ 8 5) rfl rfl (tw HT_ HW_) hHeld ?_
      refine o1_ 1 (some 31) (m_ 8 7) rfl rfl (oo HT_) (fun K hK => ?_)
      refine gs_ rfl Tryd.func39 (carrefourref02_Norm.calls _ _ _ _ _ _ A50.out) ag ?_
      intro w76 hb
      replace BK583 := bb BK583 hb
      replace BK585 := bb BK585 hb
      replace BK595 := bb BK595 hb
      replace HB := bs HB hb
      (try clear hb)
      refine hK.out _ _ ⟨ct BK583 0, ct BK583 1, ct BK595 0, ct BK595 1⟩ (fun hHeld => ?_)
      clear hK K
      refine nr_ (some 31) ?_
      refine o1_ 3 (some 33) (m_ 8 15) rfl rfl (oo HT_) (fun K hK => ?_)
      refine gs_ rfl Tryd.func50 (carrefourref02_twiceAdded.calls _ _ _ _ _ _ _ _ _ A51.out) ag ?_
      intro w77 hb
      replace BK583 := bb BK583 hb
      replace BK585 := bb BK585 hb
      replace BK595 := bb BK595 hb
      replace HB := bs HB hb
      (try clear hb)
      refine hK.out _ _ ⟨ct BK583 0, ct BK583 1, ct BK595 0, ct BK595 1⟩ (fun hHeld => ?_)
      clear hK K
      refine nr_ (some 33) ?_
      refine pu_ 4 (some 34) (m_ 8 31) rfl rfl (ao HT_) ?_
      refine pu_ 5 (some 35) (m_ 8 63) rfl rfl (ao HT_) ?_
      refine o1_ 6 (none) (m_ 8 127) rfl rfl (oo HT_) (fun K hK => ?_)
      have hs78 : c_ w77 gb585 0 (.int .i64 0) := ct BK585 0
      have hfs78 := blk_frozen BK585.out 0
      have hns78_0 := NB583_585.out
      have hns78_1 := NB584_585.out
      have hns78_3 := NB591_585.out
      have hns78_4 := NB595_585.out
      have hms78_0 := NB585_583.out
      have hms78_1 := NB585_584.out
      have hms78_3 := NB585_591.out
      have hms78_4 := NB585_595.out
      have hs79 : c_ w77 gb585 1 (.int .i64 0) := ct BK585 1
      have hfs79 := blk_frozen BK585.out 1
      have hns79_0 := NB583_585.out
      have hns79_1 := NB584_585.out
      have hns79_3 := NB591_585.out
      have hns79_4 := NB595_585.out
      have hms79_0 := NB585_583.out
      have hms79_1 := NB585_584.out
      have hms79_3 := NB585_591.out
      have hms79_4 := NB585_595.out
      refine skip_ (w1 := ?_) (by rfl) rfl ?_ ?_
      rotate_left
      · go_simp
        rfl
      refine hK.out _ _ ⟨((cell_far (p := ⟨gb585, _, none⟩) NB583_585.out _).trans (((cell_far (p := ⟨gb585, _, none⟩) NB583_585.out _).trans (hHeld.1)))), ((cell_far (p := ⟨gb585, _, none⟩) NB583_585.out _).trans (((cell_far (p := ⟨gb585, _, none⟩) NB583_585.out _).trans (hHeld.2.1)))), ((cell_far (p := ⟨gb585, _, none⟩) NB595_585.out _).trans (((cell_far (p := ⟨gb585, _, none⟩) NB595_585.out _).trans (hHeld.2.2.1)))), ((cell_far (p := ⟨gb585, _, none⟩) NB595_585.out _).trans (((cell_far (p := ⟨gb585, _, none⟩) NB595_585.out _).trans (hHeld.2.2.2))))⟩ (fun hHeld => ?_)
      clear hK K
      refine pu_ 7 (some 5) (m_ 8 255) rfl rfl (ao HT_) ?_
      refine done_ (done_of HT_.out (by kernel_rfl)) ?_
      try go_wp2
      refine bodyPost_ret (results_ct rfl _ _ gb585 23 #[.int .i64 t598, .int .i64 t599] (0, 0) _ rfl (br_ BK585) Tryd.underlying23 rfl (by kernel_rfl)) rfl ?_
      exact ⟨ae, bf HB⟩

/-! ### carrefourlaw02_same: function 14 -/
theorem carrefourlaw02_same.calls (a0_0 : Int) (a0_1 : Int) (a1 : Int) (a2_0 : Int) (a2_1 : Int) (a3 : Int) (r : Bool) (w : World) (h : carrefourlaw02_same.f a0_0 a0_1 a1 a2_0 a2_1 a3 = some r) :
    Calls Tryd.prog 14 #[.agg #[.int .i64 a0_0, .int .i64 a0_1], .int .i64 a1, .agg #[.int .i64 a2_0, .int .i64 a2_1], .int .i64 a3] w fun e w' => e = .returned (.bool r) ∧ Below w.heap.size w w' := by
  have hu23 := Tryd.underlying23
  have HB := Aside0.mk (Below.refl w.heap.size w)
  have H : (if (a0_0 == a2_0 && (a0_1 == a2_1)) = true then (some (a1 == a3)) else (some false)) = some r := h
  clear h
  by_cases c5 : (a0_0 == a2_0 && (a0_1 == a2_1)) = true
  · rw [if_pos c5] at H
    have c5b0 : (a0_0 == a2_0 && (a0_1 == a2_1)) = true := c5
    (try (have c5b1 : decide (a0_0 = a2_0 && (a0_1 == a2_1)) = true := by simpa using c5))
    (try (have c5b2 : (a0_0 == a2_0 && (a0_1 == a2_1)) = true := by simpa using c5))
    clear c5
    obtain rfl := Option.some.inj H
    go_enter Tryd.func14, Tryd.ntmps14
    go_wp2_with (first | ((with_reducible refine gd 4 rfl ?_); refine bx_ 4 23 #[.int .i64 a0_0, .int .i64 a0_1] rfl rfl ?_; intro gb601 hg w6 BK601 hb; have GE601 := bz HB hg; replace HB := bs HB hb; clear hb hg) | ((with_reducible refine gd 6 rfl ?_); refine bx_ 6 23 #[.int .i64 a2_0, .int .i64 a2_1] rfl rfl ?_; intro gb602 hg w7 BK602 hb; have GE602 := bz HB hg; have ⟨NB601_602, NB602_601⟩ := nb BK601 hg; replace BK601 := bb BK601 hb; replace HB := bs HB hb; clear hb hg; have hnb8 := nn NB601_602; have hcz9 := k2 BK601; have hcz10 := k2 BK602))
    go_ret
    exact ⟨ae, bf HB⟩
  · rw [if_neg c5] at H
    have c5b0 : (a0_0 == a2_0 && (a0_1 == a2_1)) = false := by simpa using c5
    (try (have c5b1 : decide (a0_0 = a2_0 && (a0_1 == a2_1)) = false := by simpa using c5))
    (try (have c5b2 : (a0_0 == a2_0 && (a0_1 == a2_1)) = false := by simpa using c5))
    (try (have c5b3 : ¬ (a0_0 = a2_0 && (a0_1 == a2_1)) := by simpa using c5))
    clear c5
    obtain rfl := Option.some.inj H
    go_enter Tryd.func14, Tryd.ntmps14
    go_wp2_with (first | ((with_reducible refine gd 4 rfl ?_); refine bx_ 4 23 #[.int .i64 a0_0, .int .i64 a0_1] rfl rfl ?_; intro gb601 hg w11 BK601 hb; have GE601 := bz HB hg; replace HB := bs HB hb; clear hb hg) | ((with_reducible refine gd 6 rfl ?_); refine bx_ 6 23 #[.int .i64 a2_0, .int .i64 a2_1] rfl rfl ?_; intro gb602 hg w12 BK602 hb; have GE602 := bz HB hg; have ⟨NB601_602, NB602_601⟩ := nb BK601 hg; replace BK601 := bb BK601 hb; replace HB := bs HB hb; clear hb hg; have hnb13 := nn NB601_602; have hcz14 := k2 BK601; have hcz15 := k2 BK602))
    go_ret
    exact ⟨ae, bf HB⟩

/-! ### whole_Sub: function 96 -/
theorem whole_Sub.calls (a0 : Int) (a1 : Int) (r1 : Int) (r2 : Int) (w : World) (h : whole_Sub.f a0 a1 = some (r1, r2)) :
    Calls Tryd.prog 96 #[.int .i64 a0, .int .i64 a1] w fun e w' => e = .returned (.tuple #[.int .i64 r1, .int .i64 r2]) ∧ Drawn0 w w' := by
  have H : (if ((decide ((wrap64 (a0 - a1)) > a0)) != (decide (a1 < 0))) = true then (some (0, 2)) else (some (wrap64 (a0 - a1), 0))) = some (r1, r2) := h
  clear h
  by_cases c3 : ((decide ((wrap64 (a0 - a1)) > a0)) != (decide (a1 < 0))) = true
  · rw [if_pos c3] at H
    have c3b0 : ((decide ((wrap64 (a0 - a1)) > a0)) != (decide (a1 < 0))) = true := c3
    (try (have c3b1 : decide ((decide ((wrap64 (a0 - a1)) > a0)) = (decide (a1 < 0))) = false := by simpa using c3))
    (try (have c3b2 : ((decide ((wrap64 (a0 - a1)) > a0)) == (decide (a1 < 0))) = false := by simpa using c3))
    (try (have c3b3 : ¬ ((decide ((wrap64 (a0 - a1)) > a0)) = (decide (a1 < 0))) := by simpa using c3))
    clear c3
    simp only [Option.some.injEq, Prod.mk.injEq] at H
    obtain ⟨rfl, rfl⟩ := H
    go_enter Tryd.func96, Tryd.ntmps96
    go_wp2
    go_ret2
    exact ⟨aq, dr⟩
  · rw [if_neg c3] at H
    have c3b0 : ((decide ((wrap64 (a0 - a1)) > a0)) != (decide (a1 < 0))) = false := by simpa using c3
    (try (have c3b1 : decide ((decide ((wrap64 (a0 - a1)) > a0)) = (decide (a1 < 0))) = true := by simpa using c3))
    (try (have c3b2 : ((decide ((wrap64 (a0 - a1)) > a0)) == (decide (a1 < 0))) = true := by simpa using c3))
    clear c3
    simp only [Option.some.injEq, Prod.mk.injEq] at H
    obtain ⟨rfl, rfl⟩ := H
    go_enter Tryd.func96, Tryd.ntmps96
    go_wp2
    go_ret2
    exact ⟨aq, dr⟩

/-! ### whole_Neg: function 84 -/
theorem whole_Neg.calls (a0 : Int) (r1 : Int) (r2 : Int) (w : World) (h : whole_Neg.f a0 = some (r1, r2)) :
    Calls Tryd.prog 84 #[.int .i64 a0] w fun e w' => e = .returned (.tuple #[.int .i64 r1, .int .i64 r2]) ∧ Drawn0 w w' := by
  have H : ((whole_Sub.f 0 a0).bind fun bt603 => (some (bt603.1, bt603.2))) = some (r1, r2) := h
  clear h
  replace H := bi_ H; obtain ⟨⟨t603, t604⟩, A2, H⟩ := H
  (try dsimp only at H)
  simp only [Option.some.injEq, Prod.mk.injEq] at H
  obtain ⟨rfl, rfl⟩ := H
  go_enter Tryd.func84, Tryd.ntmps84
  go_wp2_with (first | ((with_reducible refine gc 96 rfl ?_); refine gm_ (some 5) rfl rfl Tryd.func96 (whole_Sub.calls _ _ _ _ _ A2.out) ag ?_; rintro w' ⟨nd, rfl⟩))
  go_ret2
  exact ⟨aq, dr⟩

/-! ### whole_Floor: function 60 -/
theorem whole_Floor.calls (a0 : Int) (a1 : Int) (r1 : Int) (r2 : Int) (w : World) (h : whole_Floor.f a0 a1 = some (r1, r2)) :
    Calls Tryd.prog 60 #[.int .i64 a0, .int .i64 a1] w fun e w' => e = .returned (.tuple #[.int .i64 r1, .int .i64 r2]) ∧ Drawn0 w w' := by
  have H : (if a1 = 0 then (some (0, 3)) else (if a1 = (-1) then ((whole_Neg.f a0).bind fun bt605 => (some (bt605.1, bt605.2))) else (if (Int.tmod a0 a1) = 0 then (some (wrap64 (Int.tdiv a0 a1), 0)) else (if ((decide ((Int.tmod a0 a1) < 0)) != (decide (a1 < 0))) = true then (some (wrap64 ((wrap64 (Int.tdiv a0 a1)) - 1), 0)) else (some (wrap64 (Int.tdiv a0 a1), 0)))))) = some (r1, r2) := h
  clear h
  by_cases c3 : a1 = 0
  · rw [if_pos c3] at H
    have c3b0 : (a1 == 0) = true := beq_iff_eq.mpr c3
    have c3b1 : (a1 != 0) = false := bne_eq_false_iff_eq.mpr c3
    clear c3
    simp only [Option.some.injEq, Prod.mk.injEq] at H
    obtain ⟨rfl, rfl⟩ := H
    go_enter Tryd.func60, Tryd.ntmps60
    go_wp2
    repeat (go_quiet (fail); try go_wp2)
    go_ret2
    exact ⟨aq, dr⟩
  · rw [if_neg c3] at H
    have c3b0 : (a1 == 0) = false := beq_eq_false_iff_ne.mpr c3
    have c3b1 : (a1 != 0) = true := bne_iff_ne.mpr c3
    by_cases c4 : a1 = (-1)
    · rw [if_pos c4] at H
      have c4b0 : (a1 == (-1)) = true := beq_iff_eq.mpr c4
      have c4b1 : (a1 != (-1)) = false := bne_eq_false_iff_eq.mpr c4
      clear c4
      replace H := bi_ H; obtain ⟨⟨t605, t606⟩, A5, H⟩ := H
      (try dsimp only at H)
      simp only [Option.some.injEq, Prod.mk.injEq] at H
      obtain ⟨rfl, rfl⟩ := H
      go_enter Tryd.func60, Tryd.ntmps60
      go_wp2_with (first | (go_at_call 84; (with_reducible refine (whole_Neg.calls _ _ _ _ A5.out).mono ?_); rintro e w' ⟨rfl, ⟨nd, rfl⟩⟩; (try first | exact ⟨rfl, _, World.drewN_drewN _ _ _⟩ | exact ⟨rfl, _, Eq.trans (World.drewN_drewN _ _ _) (congrArg (World.drewN _) (Nat.add_assoc _ _ _))⟩)))
      repeat (go_quiet (first | (go_at_call 84; (with_reducible refine (whole_Neg.calls _ _ _ _ A5.out).mono ?_); rintro e w' ⟨rfl, ⟨nd, rfl⟩⟩; (try first | exact ⟨rfl, _, World.drewN_drewN _ _ _⟩ | exact ⟨rfl, _, Eq.trans (World.drewN_drewN _ _ _) (congrArg (World.drewN _) (Nat.add_assoc _ _ _))⟩))); try go_wp2_with (first | (go_at_call 84; (with_reducible refine (whole_Neg.calls _ _ _ _ A5.out).mono ?_); rintro e w' ⟨rfl, ⟨nd, rfl⟩⟩; (try first | exact ⟨rfl, _, World.drewN_drewN _ _ _⟩ | exact ⟨rfl, _, Eq.trans (World.drewN_drewN _ _ _) (congrArg (World.drewN _) (Nat.add_assoc _ _ _))⟩))))
      go_ret2
      exact ⟨aq, dr⟩
    · rw [if_neg c4] at H
      have c4b0 : (a1 == (-1)) = false := beq_eq_false_iff_ne.mpr c4
      have c4b1 : (a1 != (-1)) = true := bne_iff_ne.mpr c4
      by_cases c6 : (Int.tmod a0 a1) = 0
      · rw [if_pos c6] at H
        have c6b0 : ((Int.tmod a0 a1) == 0) = true := beq_iff_eq.mpr c6
        have c6b1 : ((Int.tmod a0 a1) != 0) = false := bne_eq_false_iff_eq.mpr c6
        clear c6
        simp only [Option.some.injEq, Prod.mk.injEq] at H
        obtain ⟨rfl, rfl⟩ := H
        go_enter Tryd.func60, Tryd.ntmps60
        go_wp2
        repeat (go_quiet (fail); try go_wp2)
        go_ret2
        exact ⟨aq, dr⟩
      · rw [if_neg c6] at H
        have c6b0 : ((Int.tmod a0 a1) == 0) = false := beq_eq_false_iff_ne.mpr c6
        have c6b1 : ((Int.tmod a0 a1) != 0) = true := bne_iff_ne.mpr c6
        by_cases c7 : ((decide ((Int.tmod a0 a1) < 0)) != (decide (a1 < 0))) = true
        · rw [if_pos c7] at H
          have c7b0 : ((decide ((Int.tmod a0 a1) < 0)) != (decide (a1 < 0))) = true := c7
          (try (have c7b1 : decide ((decide ((Int.tmod a0 a1) < 0)) = (decide (a1 < 0))) = false := by simpa using c7))
          (try (have c7b2 : ((decide ((Int.tmod a0 a1) < 0)) == (decide (a1 < 0))) = false := by simpa using c7))
          (try (have c7b3 : ¬ ((decide ((Int.tmod a0 a1) < 0)) = (decide (a1 < 0))) := by simpa using c7))
          clear c7
          simp only [Option.some.injEq, Prod.mk.injEq] at H
          obtain ⟨rfl, rfl⟩ := H
          go_enter Tryd.func60, Tryd.ntmps60
          go_wp2
          repeat (go_quiet (fail); try go_wp2)
          go_ret2
          exact ⟨aq, dr⟩
        · rw [if_neg c7] at H
          have c7b0 : ((decide ((Int.tmod a0 a1) < 0)) != (decide (a1 < 0))) = false := by simpa using c7
          (try (have c7b1 : decide ((decide ((Int.tmod a0 a1) < 0)) = (decide (a1 < 0))) = true := by simpa using c7))
          (try (have c7b2 : ((decide ((Int.tmod a0 a1) < 0)) == (decide (a1 < 0))) = true := by simpa using c7))
          clear c7
          simp only [Option.some.injEq, Prod.mk.injEq] at H
          obtain ⟨rfl, rfl⟩ := H
          go_enter Tryd.func60, Tryd.ntmps60
          go_wp2
          repeat (go_quiet (fail); try go_wp2)
          go_ret2
          exact ⟨aq, dr⟩

/-! ### frac_Floor: function 27 -/
theorem frac_Floor.calls (k : Nat) (a0_0 : Int) (a0_1 : Int) (r : Int) (w : World) (h : frac_Floor.f k a0_0 a0_1 = some r) (hT : TabOK w) :
    Calls Tryd.prog 27 #[.agg #[.int .i64 a0_0, .int .i64 a0_1]] w fun e w' => e = .returned (.int .i64 r) ∧ Below w.heap.size w w' := by
  have GT := Aside0.mk hT
  clear hT
  have hu23 := Tryd.underlying23
  have HB := Aside0.mk (Below.refl w.heap.size w)
  have H : ((frac_norm.f k a0_0 a0_1).bind fun bt608 => ((whole_Floor.f bt608.1 bt608.2).bind fun bt610 => (some bt610.1))) = some r := h
  clear h
  replace H := bi_ H; obtain ⟨⟨t608, t609⟩, A2, H⟩ := H
  (try dsimp only at H)
  replace H := bi_ H; obtain ⟨⟨t610, t611⟩, A3, H⟩ := H
  (try dsimp only at H)
  obtain rfl := Option.some.inj H
  go_enter Tryd.func27, Tryd.ntmps27
  go_wp2_with (first | ((with_reducible refine gd 1 rfl ?_); refine bx_ 1 23 #[.int .i64 a0_0, .int .i64 a0_1] rfl rfl ?_; intro gb607 hg w4 BK607 hb; have GE607 := bz HB hg; replace HB := bs HB hb; clear hb hg; have hcz5 := k2 BK607) | ((with_reducible refine gc 56 rfl ?_); refine gm_ (some 6) rfl rfl Tryd.func56 (frac_norm.calls _ _ _ _ _ _ A2.out (tt GT)) ag ?_; intro w6 hb; replace BK607 := bb BK607 hb; replace HB := bs HB hb; (try clear hb); have hcz7 := k2 BK607) | ((with_reducible refine gc 60 rfl ?_); refine gm_ (some 12) rfl rfl Tryd.func60 (whole_Floor.calls _ _ _ _ _ A3.out) ag ?_; rintro w' ⟨nd, rfl⟩))
  go_ret
  exact ⟨ae, bf HB⟩


/-! ### strconv_FormatInt: function 64 -/
theorem strconv_FormatInt.calls (a0 a1 : Int) (r : ByteArray) (w : World) (h : strconv_FormatInt.f a0 a1 = some r) (hT : TabOK w) :
    Calls Tryd.prog 64 #[.int .i64 a0, .int .i64 a1] w fun e w' => e = .returned (.string r) ∧ Below w.heap.size w w' := by
  unfold strconv_FormatInt.f at h
  by_cases c : a1 = 10 ∧ -9223372036854775808 ≤ a0 ∧ a0 ≤ 9223372036854775807
  · rw [if_pos c] at h
    obtain rfl := Option.some.inj h
    obtain ⟨rfl, h0, h1⟩ := c
    refine (Tryd.strconv_FormatInt_10 a0 h0 h1 w hT.2).mono fun e w' ⟨he, k, os, hw⟩ => ⟨he, ?_⟩
    subst hw
    exact ⟨rfl, rfl, rfl, by simp [Sort.grow, World.drewN], fun i hi => by simp [Sort.grow, World.drewN, Array.getElem?_append_left hi]⟩
  · rw [if_neg c] at h
    cases h

/-! ### frac_Print: function 31 -/
def frac_Print.T2 : Bool × List (List Nat × List Nat) := (true, [([], []), ([0], [0]), ([1], [1]), ([2], [2]), ([], []), ([4], [4]), ([5, 2], [5]), ([3, 6], [3, 6]), ([7, 6, 0, 1, 2, 3, 4, 5, 6, 7], [7])])
def frac_Print.B2 : List Nat := [0, 1, 3, 7, 0, 16, 55, 127, 255]
theorem frac_Print.tab2 : rtab .any (opsOf Tryd.f31 2) = frac_Print.T2 := by kernel_rfl
theorem frac_Print.bits2 : waitsOk frac_Print.T2.2 frac_Print.B2 = true := by kernel_rfl
theorem frac_Print.calls (k : Nat) (a0_0 : Int) (a0_1 : Int) (r : ByteArray) (w : World) (h : frac_Print.f k a0_0 a0_1 = some r) (hT : TabOK w) :
    Calls Tryd.prog 31 #[.agg #[.int .i64 a0_0, .int .i64 a0_1]] w fun e w' => e = .returned (.string r) ∧ Below w.heap.size w w' := by
  have GT := Aside0.mk hT
  clear hT
  have hu23 := Tryd.underlying23
  have HB := Aside0.mk (Below.refl w.heap.size w)
  have H : ((frac_norm.f k a0_0 a0_1).bind fun bt613 => ((strconv_FormatInt.f bt613.1 10).bind fun t615 => (if t615.size + 1 ≤ 9223372036854775807 then ((strconv_FormatInt.f bt613.2 10).bind fun t616 => (if (t615 ++ (⟨#[47]⟩ : ByteArray)).size + t616.size ≤ 9223372036854775807 then (some ((t615 ++ (⟨#[47]⟩ : ByteArray)) ++ t616)) else (none))) else (none)))) = some r := h
  clear h
  replace H := bi_ H; obtain ⟨⟨t613, t614⟩, A2, H⟩ := H
  (try dsimp only at H)
  replace H := bi_ H; obtain ⟨t615, A3, H⟩ := H
  (try dsimp only at H)
  by_cases c4 : t615.size + 1 ≤ 9223372036854775807
  · rw [if_pos c4] at H
    have c4b0 := eq_true c4
    have c4b1 : decide (t615.size + 1 ≤ 9223372036854775807) = true := decide_eq_true c4
    try have c4b2 : (9223372036854775807 < t615.size + 1) = False := eq_false (Nat.not_lt.2 c4)
    replace H := bi_ H; obtain ⟨t616, A5, H⟩ := H
    (try dsimp only at H)
    by_cases c6 : (t615 ++ (⟨#[47]⟩ : ByteArray)).size + t616.size ≤ 9223372036854775807
    · rw [if_pos c6] at H
      have c6b0 := eq_true c6
      have c6b1 : decide ((t615 ++ (⟨#[47]⟩ : ByteArray)).size + t616.size ≤ 9223372036854775807) = true := decide_eq_true c6
      try have c6b2 : (9223372036854775807 < (t615 ++ (⟨#[47]⟩ : ByteArray)).size + t616.size) = False := eq_false (Nat.not_lt.2 c6)
      try have c6b3 : (9223372036854775807 < t615.size + 1 + t616.size) = False := eq_false (Nat.not_lt.2 (by have hs_ := c6; rw [ByteArray.size_append] at hs_; exact hs_))
      obtain rfl := Option.some.inj H
      go_enter Tryd.func31, Tryd.ntmps31
      try go_wp2_with (first | ((with_reducible refine gd 1 rfl ?_); refine bx_ 1 23 #[.int .i64 a0_0, .int .i64 a0_1] rfl rfl ?_; intro gb612 hg w7 BK612 hb; have GE612 := bz HB hg; replace HB := bs HB hb; clear hb hg; have hcz8 := k2 BK612) | ((with_reducible refine gc 56 rfl ?_); refine gm_ (some 4) rfl rfl Tryd.func56 (frac_norm.calls _ _ _ _ _ _ A2.out (tt GT)) ag ?_; intro w9 hb; replace BK612 := bb BK612 hb; replace HB := bs HB hb; (try clear hb); have hcz10 := k2 BK612))
      have n0_ : Aside0 (((w9.setCell ⟨gb612, 0, none⟩ (.int .i64 t613)).setCell ⟨gb612, 1, none⟩ (.int .i64 t614)).heap[gb612]? = some (.cells #[.int .i64 t613, .int .i64 t614] 23 (0, 0))) := bq_ BK612
      have n1_ : Aside0 (Below w.heap.size w ((w9.setCell ⟨gb612, 0, none⟩ (.int .i64 t613)).setCell ⟨gb612, 1, none⟩ (.int .i64 t614))) := ⟨bf HB⟩
      (try clear BK612); (try clear HB)
      generalize ((w9.setCell ⟨gb612, 0, none⟩ (.int .i64 t613)).setCell ⟨gb612, 1, none⟩ (.int .i64 t614)) = w11 at n0_ n1_ ⊢
      have BK612 := n0_
      have HB := n1_
      clear n0_ n1_
      replace BK612 := Aside0.mk (blk_drew BK612.out)
      replace HB := Aside0.mk (below_drew1 HB.out)
      refine start_ (n := 9) (S := fun w' => c_ w' gb612 0 (.int .i64 t613) ∧ c_ w' gb612 1 (.int .i64 t614)) (ds := []) (m_ 9 0) (by kernel_rfl) rfl rfl ⟨ct BK612 0, ct BK612 1⟩ (fun hHeld => ?_); refine with_tabW frac_Print.tab2 frac_Print.bits2 (fun HT_ HW_ => ?_)
      generalize w11.drew = w12 at BK612 HB hHeld ⊢
      refine pu_ 0 (some 5) (m_ 9 1) rfl rfl (ao HT_) ?_
      refine pu_ 4 (some 9) (m_ 9 17) rfl rfl (ao HT_) ?_
      refine tk_ 1 (some 6) (m_ 9 19) rfl rfl (tw HT_ HW_) hHeld ?_
      refine tk_ 5 (some 10) (m_ 9 51) rfl rfl (tw HT_ HW_) hHeld ?_
      refine o1_ 2 (some 7) (m_ 9 55) rfl rfl (oo HT_) (fun K hK => ?_)
      refine gs_ rfl Tryd.func64 (strconv_FormatInt.calls _ _ _ _ A3.out (tt GT)) ag ?_
      intro w13 hb
      replace BK612 := bb BK612 hb
      replace HB := bs HB hb
      (try clear hb)
      refine hK.out _ _ ⟨ct BK612 0, ct BK612 1⟩ (fun hHeld => ?_)
      clear hK K
      refine nr_ (some 7) ?_
      refine pu_ 3 (some 8) (m_ 9 63) rfl rfl (ao HT_) ?_
      refine o1_ 6 (some 11) (m_ 9 127) rfl rfl (oo HT_) (fun K hK => ?_)
      refine gs_ rfl Tryd.func64 (strconv_FormatInt.calls _ _ _ _ A5.out (tt GT)) ag ?_
      intro w14 hb
      replace BK612 := bb BK612 hb
      replace HB := bs HB hb
      (try clear hb)
      refine hK.out _ _ ⟨ct BK612 0, ct BK612 1⟩ (fun hHeld => ?_)
      clear hK K
      refine nr_ (some 11) ?_
      refine pu_ 7 (some 12) (m_ 9 255) rfl rfl (ao HT_) ?_
      refine pu_ 8 (some 2) (m_ 9 511) rfl rfl (ao HT_) ?_
      refine done_ (done_of HT_.out (by kernel_rfl)) ?_
      try go_wp2
      go_ret
      exact ⟨ae, bf HB⟩
    · rw [if_neg c6] at H
      exact absurd H (by simp)
  · rw [if_neg c4] at H
    exact absurd H (by simp)

/-! ### carrefourlaw02_awake: function 15 -/
theorem carrefourlaw02_awake.calls (k : Nat)  (r : Bool) (w : World) (h : carrefourlaw02_awake.f k  = some r) (hT : TabOK w) :
    Calls Tryd.prog 15 #[] w fun e w' => e = .returned (.bool r) ∧ Below w.heap.size w w' := by
  have GT := Aside0.mk hT
  clear hT
  have hu23 := Tryd.underlying23
  have HB := Aside0.mk (Below.refl w.heap.size w)
  have H : ((frac_Add.f k 1 6 1 10).bind fun bt617 => ((frac_Add.f k 1 4611686018427387904 1 4611686018427387903).bind fun bt621 => (if bt617.2.2 = 0 then (if (bt617.1 == 4 && (bt617.2.1 == 15)) = true then (if bt621.2.2 = 2 then ((frac_Floor.f k (-1) 2).bind fun t625 => (if t625 = (-1) then ((frac_Print.f k bt617.1 bt617.2.1).bind fun t626 => (some (t626.toList == ([52, 47, 49, 53] : List UInt8)))) else (some false))) else (some false)) else (some false)) else (some false)))) = some r := h
  clear h
  replace H := bi_ H; obtain ⟨⟨t617, t618, t619⟩, A1, H⟩ := H
  (try dsimp only at H)
  replace H := bi_ H; obtain ⟨⟨t621, t622, t623⟩, A2, H⟩ := H
  (try dsimp only at H)
  by_cases c3 : t619 = 0
  · rw [if_pos c3] at H
    have c3b0 : (t619 == 0) = true := beq_iff_eq.mpr c3
    have c3b1 : (t619 != 0) = false := bne_eq_false_iff_eq.mpr c3
    clear c3
    by_cases c4 : (t617 == 4 && (t618 == 15)) = true
    · rw [if_pos c4] at H
      have c4b0 : (t617 == 4 && (t618 == 15)) = true := c4
      (try (have c4b1 : decide (t617 = 4 && (t618 == 15)) = true := by simpa using c4))
      (try (have c4b2 : (t617 == 4 && (t618 == 15)) = true := by simpa using c4))
      clear c4
      by_cases c5 : t623 = 2
      · rw [if_pos c5] at H
        have c5b0 : (t623 == 2) = true := beq_iff_eq.mpr c5
        have c5b1 : (t623 != 2) = false := bne_eq_false_iff_eq.mpr c5
        clear c5
        replace H := bi_ H; obtain ⟨t625, A6, H⟩ := H
        (try dsimp only at H)
        by_cases c7 : t625 = (-1)
        · rw [if_pos c7] at H
          have c7b0 : (t625 == (-1)) = true := beq_iff_eq.mpr c7
          have c7b1 : (t625 != (-1)) = false := bne_eq_false_iff_eq.mpr c7
          clear c7
          replace H := bi_ H; obtain ⟨t626, A8, H⟩ := H
          (try dsimp only at H)
          obtain rfl := Option.some.inj H
          go_enter Tryd.func15, Tryd.ntmps15
          go_wp2_with (first | ((with_reducible refine gc 10 rfl ?_); refine gm_ (some 8) rfl rfl Tryd.func10 (frac_Add.calls _ _ _ _ _ _ _ _ _ A1.out (tt GT)) ag ?_; intro w9 hb; replace HB := bs HB hb; (try clear hb)) | ((with_reducible refine gd 1 rfl ?_); refine bx_ 1 23 #[.int .i64 0, .int .i64 0] rfl rfl ?_; intro gb620 hg w10 BK620 hb; have GE620 := bz HB hg; replace HB := bs HB hb; clear hb hg; have hcz11 := k2 BK620) | ((with_reducible refine gc 10 rfl ?_); refine gm_ (some 14) rfl rfl Tryd.func10 (frac_Add.calls _ _ _ _ _ _ _ _ _ A2.out (tt GT)) ag ?_; intro w12 hb; replace BK620 := bp_ #[.int .i64 t617, .int .i64 t618] BK620 hb; replace HB := bs HB hb; (try clear hb)) | ((with_reducible refine gd 3 rfl ?_); refine bx_ 3 23 #[.int .i64 0, .int .i64 0] rfl rfl ?_; intro gb624 hg w13 BK624 hb; have GE624 := bz HB hg; have ⟨NB620_624, NB624_620⟩ := nb BK620 hg; replace BK620 := bb BK620 hb; replace HB := bs HB hb; clear hb hg; have hnb14 := nn NB624_620; have hcz15 := k2 BK624; have hcz16 := k2 BK620) | (go_at_call 27; (with_reducible refine (frac_Floor.calls _ _ _ _ _ A6.out (tt GT)).mono ?_); rintro e w17 ⟨rfl, hb⟩; replace BK620 := bb BK620 hb; replace BK624 := bp_ #[.int .i64 t621, .int .i64 t622] BK624 hb; replace HB := bs HB hb; (try clear hb); have hcz18 := k2 BK620) | (go_at_call 31; (with_reducible refine (frac_Print.calls _ _ _ _ _ A8.out (tt GT)).mono ?_); rintro e w19 ⟨rfl, hb⟩; replace HB := bs HB hb; (try clear hb)))
          go_ret
          exact ⟨ae, bf HB⟩
        · rw [if_neg c7] at H
          have c7b0 : (t625 == (-1)) = false := beq_eq_false_iff_ne.mpr c7
          have c7b1 : (t625 != (-1)) = true := bne_iff_ne.mpr c7
          obtain rfl := Option.some.inj H
          go_enter Tryd.func15, Tryd.ntmps15
          go_wp2_with (first | ((with_reducible refine gc 10 rfl ?_); refine gm_ (some 8) rfl rfl Tryd.func10 (frac_Add.calls _ _ _ _ _ _ _ _ _ A1.out (tt GT)) ag ?_; intro w20 hb; replace HB := bs HB hb; (try clear hb)) | ((with_reducible refine gd 1 rfl ?_); refine bx_ 1 23 #[.int .i64 0, .int .i64 0] rfl rfl ?_; intro gb620 hg w21 BK620 hb; have GE620 := bz HB hg; replace HB := bs HB hb; clear hb hg; have hcz22 := k2 BK620) | ((with_reducible refine gc 10 rfl ?_); refine gm_ (some 14) rfl rfl Tryd.func10 (frac_Add.calls _ _ _ _ _ _ _ _ _ A2.out (tt GT)) ag ?_; intro w23 hb; replace BK620 := bp_ #[.int .i64 t617, .int .i64 t618] BK620 hb; replace HB := bs HB hb; (try clear hb)) | ((with_reducible refine gd 3 rfl ?_); refine bx_ 3 23 #[.int .i64 0, .int .i64 0] rfl rfl ?_; intro gb624 hg w24 BK624 hb; have GE624 := bz HB hg; have ⟨NB620_624, NB624_620⟩ := nb BK620 hg; replace BK620 := bb BK620 hb; replace HB := bs HB hb; clear hb hg; have hnb25 := nn NB624_620; have hcz26 := k2 BK624; have hcz27 := k2 BK620) | (go_at_call 27; (with_reducible refine (frac_Floor.calls _ _ _ _ _ A6.out (tt GT)).mono ?_); rintro e w28 ⟨rfl, hb⟩; replace BK624 := bp_ #[.int .i64 t621, .int .i64 t622] BK624 hb; replace HB := bs HB hb; (try clear hb)))
          go_ret
          exact ⟨ae, bf HB⟩
      · rw [if_neg c5] at H
        have c5b0 : (t623 == 2) = false := beq_eq_false_iff_ne.mpr c5
        have c5b1 : (t623 != 2) = true := bne_iff_ne.mpr c5
        obtain rfl := Option.some.inj H
        go_enter Tryd.func15, Tryd.ntmps15
        go_wp2_with (first | ((with_reducible refine gc 10 rfl ?_); refine gm_ (some 8) rfl rfl Tryd.func10 (frac_Add.calls _ _ _ _ _ _ _ _ _ A1.out (tt GT)) ag ?_; intro w29 hb; replace HB := bs HB hb; (try clear hb)) | ((with_reducible refine gd 1 rfl ?_); refine bx_ 1 23 #[.int .i64 0, .int .i64 0] rfl rfl ?_; intro gb620 hg w30 BK620 hb; have GE620 := bz HB hg; replace HB := bs HB hb; clear hb hg; have hcz31 := k2 BK620) | ((with_reducible refine gc 10 rfl ?_); refine gm_ (some 14) rfl rfl Tryd.func10 (frac_Add.calls _ _ _ _ _ _ _ _ _ A2.out (tt GT)) ag ?_; intro w32 hb; replace BK620 := bp_ #[.int .i64 t617, .int .i64 t618] BK620 hb; replace HB := bs HB hb; (try clear hb)) | ((with_reducible refine gd 3 rfl ?_); refine bx_ 3 23 #[.int .i64 0, .int .i64 0] rfl rfl ?_; intro gb624 hg w33 BK624 hb; have GE624 := bz HB hg; have ⟨NB620_624, NB624_620⟩ := nb BK620 hg; replace BK620 := bb BK620 hb; replace HB := bs HB hb; clear hb hg; have hnb34 := nn NB624_620; have hcz35 := k2 BK624; have hcz36 := k2 BK620))
        go_ret
        exact ⟨ae, bf HB⟩
    · rw [if_neg c4] at H
      have c4b0 : (t617 == 4 && (t618 == 15)) = false := by simpa using c4
      (try (have c4b1 : decide (t617 = 4 && (t618 == 15)) = false := by simpa using c4))
      (try (have c4b2 : (t617 == 4 && (t618 == 15)) = false := by simpa using c4))
      (try (have c4b3 : ¬ (t617 = 4 && (t618 == 15)) := by simpa using c4))
      clear c4
      obtain rfl := Option.some.inj H
      go_enter Tryd.func15, Tryd.ntmps15
      go_wp2_with (first | ((with_reducible refine gc 10 rfl ?_); refine gm_ (some 8) rfl rfl Tryd.func10 (frac_Add.calls _ _ _ _ _ _ _ _ _ A1.out (tt GT)) ag ?_; intro w37 hb; replace HB := bs HB hb; (try clear hb)) | ((with_reducible refine gd 1 rfl ?_); refine bx_ 1 23 #[.int .i64 0, .int .i64 0] rfl rfl ?_; intro gb620 hg w38 BK620 hb; have GE620 := bz HB hg; replace HB := bs HB hb; clear hb hg; have hcz39 := k2 BK620) | ((with_reducible refine gc 10 rfl ?_); refine gm_ (some 14) rfl rfl Tryd.func10 (frac_Add.calls _ _ _ _ _ _ _ _ _ A2.out (tt GT)) ag ?_; intro w40 hb; replace BK620 := bp_ #[.int .i64 t617, .int .i64 t618] BK620 hb; replace HB := bs HB hb; (try clear hb)) | ((with_reducible refine gd 3 rfl ?_); refine bx_ 3 23 #[.int .i64 0, .int .i64 0] rfl rfl ?_; intro gb624 hg w41 BK624 hb; have GE624 := bz HB hg; have ⟨NB620_624, NB624_620⟩ := nb BK620 hg; replace BK620 := bb BK620 hb; replace HB := bs HB hb; clear hb hg; have hnb42 := nn NB624_620; have hcz43 := k2 BK624; have hcz44 := k2 BK620))
      go_ret
      exact ⟨ae, bf HB⟩
  · rw [if_neg c3] at H
    have c3b0 : (t619 == 0) = false := beq_eq_false_iff_ne.mpr c3
    have c3b1 : (t619 != 0) = true := bne_iff_ne.mpr c3
    obtain rfl := Option.some.inj H
    go_enter Tryd.func15, Tryd.ntmps15
    go_wp2_with (first | ((with_reducible refine gc 10 rfl ?_); refine gm_ (some 8) rfl rfl Tryd.func10 (frac_Add.calls _ _ _ _ _ _ _ _ _ A1.out (tt GT)) ag ?_; intro w45 hb; replace HB := bs HB hb; (try clear hb)) | ((with_reducible refine gd 1 rfl ?_); refine bx_ 1 23 #[.int .i64 0, .int .i64 0] rfl rfl ?_; intro gb620 hg w46 BK620 hb; have GE620 := bz HB hg; replace HB := bs HB hb; clear hb hg; have hcz47 := k2 BK620) | ((with_reducible refine gc 10 rfl ?_); refine gm_ (some 14) rfl rfl Tryd.func10 (frac_Add.calls _ _ _ _ _ _ _ _ _ A2.out (tt GT)) ag ?_; intro w48 hb; replace BK620 := bp_ #[.int .i64 t617, .int .i64 t618] BK620 hb; replace HB := bs HB hb; (try clear hb)) | ((with_reducible refine gd 3 rfl ?_); refine bx_ 3 23 #[.int .i64 0, .int .i64 0] rfl rfl ?_; intro gb624 hg w49 BK624 hb; have GE624 := bz HB hg; have ⟨NB620_624, NB624_620⟩ := nb BK620 hg; replace HB := bs HB hb; clear hb hg; have hnb50 := nn NB624_620; have hcz51 := k2 BK624))
    go_ret
    exact ⟨ae, bf HB⟩

end Go.Proofs.YtjgnaccamakpdaaDoor.X
