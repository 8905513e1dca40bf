/- The walks of functions of the program, laid by a program of this session over the translation: each '.calls' says that the Go function comes to what its Lean function tells. Conditions: as each theorem's head says. -/
import Derived.Test.YtpdmiookdmncpaaDoorXD
import Derived.Test.YtpdmiookdmncpaaDoorX0
import Derived.Test.YtpdmiookdmncpaaDoorX9
import Derived.Test.YtpdmiookdmncpaaDoorX10
import Derived.Test.YtpdmiookdmncpaaDoorX11
import Derived.Test.YtpdmiookdmncpaaDoorX12
import Derived.Test.YtpdmiookdmncpaaDoorX13
import Derived.Test.YtpdmiookdmncpaaDoorX14
import Derived.Test.YtpdmiookdmncpaaDoorX15
namespace Go.Proofs.YtpdmiookdmncpaaDoor.X
open Go.RowKit Go.Proofs.YtpdmiookdmncpaaDoorW.PrintWords Go.Proofs.YtpdmiookdmncpaaDoorW.PrintLast Go.Proofs.YtpdmiookdmncpaaDoorW.PrintMore
attribute [local go_sem] max2_int min2_int max_two min_two max_three min_three max_four min_four   -- for this text's walks alone
set_option linter.unusedVariables false
set_option linter.unusedSimpArgs false

/-! ### carrefourref02_Sub: function 37 -/
def carrefourref02_Sub.T8 : Bool × List (List Nat × List Nat) := (true, [([], []), ([0], [0]), ([], []), ([1, 2, 1], [1, 2]), ([3], [3]), ([3], [3]), ([4, 3, 0, 1, 2, 3, 4, 5], [4]), ([5, 6, 0, 1, 2, 3, 4, 5, 6], [5])])
def carrefourref02_Sub.B8 : List Nat := [0, 1, 0, 7, 15, 15, 63, 127]
theorem carrefourref02_Sub.tab8 : rtab .any (opsOf Tryd.f37 8) = carrefourref02_Sub.T8 := by kernel_rfl
theorem carrefourref02_Sub.bits8 : waitsOk carrefourref02_Sub.T8.2 carrefourref02_Sub.B8 = true := by kernel_rfl
set_option maxHeartbeats 8000000 in
set_option maxRecDepth 100000 in
theorem carrefourref02_Sub.calls (k : Nat) (a0_0 : Int) (a0_1 : Int) (a1_0 : Int) (a1_1 : Int) (r1 : Int) (r2 : Int) (r3 : Int) (w : World) (h : carrefourref02_Sub.f k a0_0 a0_1 a1_0 a1_1 = some (r1, r2, r3)) :
    Calls Tryd.prog 37 #[.agg #[.int .i64 a0_0, .int .i64 a0_1], .agg #[.int .i64 a1_0, .int .i64 a1_1]] w fun e w' => e = .returned (.tuple #[.agg #[.int .i64 r1, .int .i64 r2], .int .i64 r3]) ∧ Below w.heap.size w w' := by
  have hu23 := Tryd.underlying23
  have HB := Aside0.mk (Below.refl w.heap.size w)
  have H : ((carrefourref02_Norm.f k a1_0 a1_1).bind fun bt549 => ((carrefourref02_minus.f bt549.1 bt549.2).bind fun bt551 => (if bt551.2.2 = true then ((carrefourref02_Add.f k a0_0 a0_1 bt551.1 bt551.2.1).bind fun bt555 => (some (bt555.1, bt555.2.1, bt555.2.2))) else (if (Int.tmod bt549.2 2) = 0 then (some (0, 0, 2)) else ((carrefourref02_Norm.f k a0_0 a0_1).bind fun bt559 => ((carrefourref02_twiceAdded.f k bt559.1 bt559.2 4611686018427387904 bt549.2).bind fun bt561 => (some (bt561.1, bt561.2.1, bt561.2.2)))))))) = some (r1, r2, r3) := h
  clear h
  replace H := bi_ H; obtain ⟨⟨t549, t550⟩, A3, H⟩ := H
  (try dsimp only at H)
  replace H := bi_ H; obtain ⟨⟨t551, t552, t553⟩, A4, H⟩ := H
  (try dsimp only at H)
  by_cases c5 : t553 = true
  · subst c5
    have H1 : ((carrefourref02_Add.f k a0_0 a0_1 t551 t552).bind fun bt555 => (some (bt555.1, bt555.2.1, bt555.2.2))) = some (r1, r2, r3) := by rw [if_pos rfl] at H; exact H
    clear H
    have H := H1
    clear H1
    replace H := bi_ H; obtain ⟨⟨t555, t556, t557⟩, A6, H⟩ := H
    (try dsimp only at H)
    simp only [Option.some.injEq, Prod.mk.injEq] at H
    obtain ⟨rfl, rfl, rfl⟩ := H
    go_enter Tryd.func37, Tryd.ntmps37
    go_wp2_with (first | ((with_reducible refine gd 2 rfl ?_); refine bx_ 2 23 #[.int .i64 a0_0, .int .i64 a0_1] rfl rfl ?_; intro gb546 hg w7 BK546 hb; have GE546 := bz HB hg; replace HB := bs HB hb; clear hb hg) | ((with_reducible refine gd 3 rfl ?_); refine bx_ 3 23 #[.int .i64 a1_0, .int .i64 a1_1] rfl rfl ?_; intro gb547 hg w8 BK547 hb; have GE547 := bz HB hg; have ⟨NB546_547, NB547_546⟩ := nb BK546 hg; replace BK546 := bb BK546 hb; replace HB := bs HB hb; clear hb hg) | ((with_reducible refine gd 4 rfl ?_); refine bx_ 4 23 #[.int .i64 0, .int .i64 0] rfl rfl ?_; intro gb548 hg w9 BK548 hb; have GE548 := bz HB hg; have ⟨NB546_548, NB548_546⟩ := nb BK546 hg; have ⟨NB547_548, NB548_547⟩ := nb BK547 hg; replace BK546 := bb BK546 hb; replace BK547 := bb BK547 hb; replace HB := bs HB hb; clear hb hg; have hnb10 := nn NB547_546; have hnb11 := nn NB547_548; have hcz12 := k2 BK547) | ((with_reducible refine gc 45 rfl ?_); refine gl_ (some 10) rfl rfl Tryd.func45 ((carrefourref02_Norm.calls _ _ _ _ _ _ A3.out).mono ?_) ag; rintro e w13 ⟨rfl, hb⟩; refine ⟨_, rfl, ?_⟩; replace BK546 := bb BK546 hb; replace BK547 := bb BK547 hb; replace BK548 := bb BK548 hb; replace HB := bs HB hb; (try clear hb); have hcz14 := k2 BK547) | ((with_reducible refine gc 68 rfl ?_); refine gl_ (some 13) rfl rfl Tryd.func68 ((carrefourref02_minus.calls _ _ _ _ _ _ A4.out).mono ?_) ag; rintro e w15 ⟨rfl, hb⟩; refine ⟨_, rfl, ?_⟩; replace BK546 := bb BK546 hb; replace BK547 := bp_ #[.int .i64 t549, .int .i64 t550] BK547 hb; replace BK548 := bb BK548 hb; replace HB := bs HB hb; (try clear hb)) | ((with_reducible refine gd 6 rfl ?_); refine bx_ 6 23 #[.int .i64 0, .int .i64 0] rfl rfl ?_; intro gb554 hg w16 BK554 hb; have GE554 := bz HB hg; have ⟨NB546_554, NB554_546⟩ := nb BK546 hg; have ⟨NB547_554, NB554_547⟩ := nb BK547 hg; have ⟨NB548_554, NB554_548⟩ := nb BK548 hg; replace BK546 := bb BK546 hb; replace BK547 := bb BK547 hb; replace BK548 := bb BK548 hb; replace HB := bs HB hb; clear hb hg; have hnb17 := nn NB554_546; have hnb18 := nn NB554_547; have hnb19 := nn NB554_548; have hcz20 := k2 BK554; have hnb21 := nn NB546_548; have hcz22 := k2 BK546) | ((with_reducible refine gc 29 rfl ?_); refine gl_ (some 19) rfl rfl Tryd.func29 ((carrefourref02_Add.calls _ _ _ _ _ _ _ _ _ A6.out).mono ?_) ag; rintro e w23 ⟨rfl, hb⟩; refine ⟨_, rfl, ?_⟩; replace BK546 := bb BK546 hb; replace BK547 := bb BK547 hb; replace BK548 := bb BK548 hb; replace BK554 := bp_ #[.int .i64 t551, .int .i64 t552] BK554 hb; replace HB := bs HB hb; (try clear hb); have hcz24 := k2 BK548))
    refine bodyPost_ret (results_ct rfl _ _ gb548 23 #[.int .i64 t555, .int .i64 t556] (0, 0) _ rfl (br_ BK548) Tryd.underlying23 rfl (by kernel_rfl)) rfl ?_
    exact ⟨by first | rfl | (simp [errW_none, errW_some] <;> rfl) | (simp [*, errW_none, errW_some] <;> rfl), bf HB⟩
  · replace c5 := Bool.eq_false_iff.mpr c5
    subst c5
    have H1 : (if (Int.tmod t550 2) = 0 then (some (0, 0, 2)) else ((carrefourref02_Norm.f k a0_0 a0_1).bind fun bt559 => ((carrefourref02_twiceAdded.f k bt559.1 bt559.2 4611686018427387904 t550).bind fun bt561 => (some (bt561.1, bt561.2.1, bt561.2.2))))) = some (r1, r2, r3) := by rw [if_neg (show ¬ (false = true) by decide)] at H; exact H
    clear H
    have H := H1
    clear H1
    by_cases c25 : (Int.tmod t550 2) = 0
    · rw [if_pos c25] at H
      have c25b0 : ((Int.tmod t550 2) == 0) = true := beq_iff_eq.mpr c25
      have c25b1 : ((Int.tmod t550 2) != 0) = false := bne_eq_false_iff_eq.mpr c25
      clear c25
      simp only [Option.some.injEq, Prod.mk.injEq] at H
      obtain ⟨rfl, rfl, rfl⟩ := H
      go_enter Tryd.func37, Tryd.ntmps37
      go_wp2_with (first | ((with_reducible refine gd 2 rfl ?_); refine bx_ 2 23 #[.int .i64 a0_0, .int .i64 a0_1] rfl rfl ?_; intro gb546 hg w26 BK546 hb; have GE546 := bz HB hg; replace HB := bs HB hb; clear hb hg) | ((with_reducible refine gd 3 rfl ?_); refine bx_ 3 23 #[.int .i64 a1_0, .int .i64 a1_1] rfl rfl ?_; intro gb547 hg w27 BK547 hb; have GE547 := bz HB hg; have ⟨NB546_547, NB547_546⟩ := nb BK546 hg; replace BK546 := bb BK546 hb; replace HB := bs HB hb; clear hb hg) | ((with_reducible refine gd 4 rfl ?_); refine bx_ 4 23 #[.int .i64 0, .int .i64 0] rfl rfl ?_; intro gb548 hg w28 BK548 hb; have GE548 := bz HB hg; have ⟨NB546_548, NB548_546⟩ := nb BK546 hg; have ⟨NB547_548, NB548_547⟩ := nb BK547 hg; replace BK546 := bb BK546 hb; replace BK547 := bb BK547 hb; replace HB := bs HB hb; clear hb hg; have hnb29 := nn NB547_546; have hnb30 := nn NB547_548; have hcz31 := k2 BK547) | ((with_reducible refine gc 45 rfl ?_); refine gl_ (some 10) rfl rfl Tryd.func45 ((carrefourref02_Norm.calls _ _ _ _ _ _ A3.out).mono ?_) ag; rintro e w32 ⟨rfl, hb⟩; refine ⟨_, rfl, ?_⟩; replace BK546 := bb BK546 hb; replace BK547 := bb BK547 hb; replace BK548 := bb BK548 hb; replace HB := bs HB hb; (try clear hb); have hcz33 := k2 BK547) | ((with_reducible refine gc 68 rfl ?_); refine gl_ (some 13) rfl rfl Tryd.func68 ((carrefourref02_minus.calls _ _ _ _ _ _ A4.out).mono ?_) ag; rintro e w34 ⟨rfl, hb⟩; refine ⟨_, rfl, ?_⟩; replace BK546 := bb BK546 hb; replace BK547 := bp_ #[.int .i64 t549, .int .i64 t550] BK547 hb; replace BK548 := bb BK548 hb; replace HB := bs HB hb; (try clear hb)) | ((with_reducible refine gd 6 rfl ?_); refine bx_ 6 23 #[.int .i64 0, .int .i64 0] rfl rfl ?_; intro gb554 hg w35 BK554 hb; have GE554 := bz HB hg; have ⟨NB546_554, NB554_546⟩ := nb BK546 hg; have ⟨NB547_554, NB554_547⟩ := nb BK547 hg; have ⟨NB548_554, NB554_548⟩ := nb BK548 hg; replace BK546 := bb BK546 hb; replace BK547 := bb BK547 hb; replace BK548 := bb BK548 hb; replace HB := bs HB hb; clear hb hg; have hnb36 := nn NB554_546; have hnb37 := nn NB554_547; have hnb38 := nn NB554_548; have hcz39 := k2 BK554; have hcz40 := k2 BK547) | ((with_reducible refine gd 8 rfl ?_); refine bx_ 8 23 #[.int .i64 0, .int .i64 0] rfl rfl ?_; intro gb558 hg w41 BK558 hb; have GE558 := bz HB hg; have ⟨NB546_558, NB558_546⟩ := nb BK546 hg; have ⟨NB547_558, NB558_547⟩ := nb BK547 hg; have ⟨NB548_558, NB558_548⟩ := nb BK548 hg; have NB554_558 := Aside0.mk ((by rw [hg]; exact Nat.ne_of_lt (blk_lt (g := gb554) (o := .cells #[.int .i64 t551, .int .i64 t552] 23 (0, 0)) (br_ BK554)) : gb554 ≠ gb558)); have NB558_554 := Aside0.mk ((by rw [hg]; exact Nat.ne_of_gt (blk_lt (g := gb554) (o := .cells #[.int .i64 t551, .int .i64 t552] 23 (0, 0)) (br_ BK554)) : gb558 ≠ gb554)); replace BK546 := bb BK546 hb; replace BK547 := bb BK547 hb; replace BK548 := bb BK548 hb; replace BK554 := bp_ #[.int .i64 t551, .int .i64 t552] BK554 hb; replace HB := bs HB hb; clear hb hg; have hnb42 := nn NB558_546; have hnb43 := nn NB558_547; have hnb44 := nn NB558_548; have hnb45 := nn NB558_554; have hcz46 := k2 BK558; have hcz47 := k2 BK547; have hnb48 := nn NB548_546; have hcz49 := k2 BK548))
      refine bodyPost_ret (results_ct rfl _ _ gb548 23 #[.int .i64 0, .int .i64 0] (0, 0) _ rfl (br_ BK548) Tryd.underlying23 rfl (by kernel_rfl)) rfl ?_
      exact ⟨by first | rfl | (simp [errW_none, errW_some] <;> rfl) | (simp [*, errW_none, errW_some] <;> rfl), bf HB⟩
    · rw [if_neg c25] at H
      have c25b0 : ((Int.tmod t550 2) == 0) = false := beq_eq_false_iff_ne.mpr c25
      have c25b1 : ((Int.tmod t550 2) != 0) = true := bne_iff_ne.mpr c25
      replace H := bi_ H; obtain ⟨⟨t559, t560⟩, A50, H⟩ := H
      (try dsimp only at H)
      replace H := bi_ H; obtain ⟨⟨t561, t562, t563⟩, A51, H⟩ := H
      (try dsimp only at H)
      simp only [Option.some.injEq, Prod.mk.injEq] at H
      obtain ⟨rfl, rfl, rfl⟩ := H
      go_enter Tryd.func37, Tryd.ntmps37
      try go_wp2_with (first | ((with_reducible refine gd 2 rfl ?_); refine bx_ 2 23 #[.int .i64 a0_0, .int .i64 a0_1] rfl rfl ?_; intro gb546 hg w52 BK546 hb; have GE546 := bz HB hg; replace HB := bs HB hb; clear hb hg) | ((with_reducible refine gd 3 rfl ?_); refine bx_ 3 23 #[.int .i64 a1_0, .int .i64 a1_1] rfl rfl ?_; intro gb547 hg w53 BK547 hb; have GE547 := bz HB hg; have ⟨NB546_547, NB547_546⟩ := nb BK546 hg; replace BK546 := bb BK546 hb; replace HB := bs HB hb; clear hb hg) | ((with_reducible refine gd 4 rfl ?_); refine bx_ 4 23 #[.int .i64 0, .int .i64 0] rfl rfl ?_; intro gb548 hg w54 BK548 hb; have GE548 := bz HB hg; have ⟨NB546_548, NB548_546⟩ := nb BK546 hg; have ⟨NB547_548, NB548_547⟩ := nb BK547 hg; replace BK546 := bb BK546 hb; replace BK547 := bb BK547 hb; replace HB := bs HB hb; clear hb hg; have hnb55 := nn NB547_546; have hnb56 := nn NB547_548; have hcz57 := k2 BK547) | ((with_reducible refine gc 45 rfl ?_); refine gl_ (some 10) rfl rfl Tryd.func45 ((carrefourref02_Norm.calls _ _ _ _ _ _ A3.out).mono ?_) ag; rintro e w58 ⟨rfl, hb⟩; refine ⟨_, rfl, ?_⟩; replace BK546 := bb BK546 hb; replace BK547 := bb BK547 hb; replace BK548 := bb BK548 hb; replace HB := bs HB hb; (try clear hb); have hcz59 := k2 BK547) | ((with_reducible refine gc 68 rfl ?_); refine gl_ (some 13) rfl rfl Tryd.func68 ((carrefourref02_minus.calls _ _ _ _ _ _ A4.out).mono ?_) ag; rintro e w60 ⟨rfl, hb⟩; refine ⟨_, rfl, ?_⟩; replace BK546 := bb BK546 hb; replace BK547 := bp_ #[.int .i64 t549, .int .i64 t550] BK547 hb; replace BK548 := bb BK548 hb; replace HB := bs HB hb; (try clear hb)) | ((with_reducible refine gd 6 rfl ?_); refine bx_ 6 23 #[.int .i64 0, .int .i64 0] rfl rfl ?_; intro gb554 hg w61 BK554 hb; have GE554 := bz HB hg; have ⟨NB546_554, NB554_546⟩ := nb BK546 hg; have ⟨NB547_554, NB554_547⟩ := nb BK547 hg; have ⟨NB548_554, NB554_548⟩ := nb BK548 hg; replace BK546 := bb BK546 hb; replace BK547 := bb BK547 hb; replace BK548 := bb BK548 hb; replace HB := bs HB hb; clear hb hg; have hnb62 := nn NB554_546; have hnb63 := nn NB554_547; have hnb64 := nn NB554_548; have hcz65 := k2 BK554; have hcz66 := k2 BK547) | ((with_reducible refine gd 8 rfl ?_); refine bx_ 8 23 #[.int .i64 0, .int .i64 0] rfl rfl ?_; intro gb558 hg w67 BK558 hb; have GE558 := bz HB hg; have ⟨NB546_558, NB558_546⟩ := nb BK546 hg; have ⟨NB547_558, NB558_547⟩ := nb BK547 hg; have ⟨NB548_558, NB558_548⟩ := nb BK548 hg; have NB554_558 := Aside0.mk ((by rw [hg]; exact Nat.ne_of_lt (blk_lt (g := gb554) (o := .cells #[.int .i64 t551, .int .i64 t552] 23 (0, 0)) (br_ BK554)) : gb554 ≠ gb558)); have NB558_554 := Aside0.mk ((by rw [hg]; exact Nat.ne_of_gt (blk_lt (g := gb554) (o := .cells #[.int .i64 t551, .int .i64 t552] 23 (0, 0)) (br_ BK554)) : gb558 ≠ gb554)); replace BK546 := bb BK546 hb; replace BK547 := bb BK547 hb; replace BK548 := bb BK548 hb; replace BK554 := bp_ #[.int .i64 t551, .int .i64 t552] BK554 hb; replace HB := bs HB hb; clear hb hg; have hnb68 := nn NB558_546; have hnb69 := nn NB558_547; have hnb70 := nn NB558_548; have hnb71 := nn NB558_554; have hcz72 := k2 BK558; have hcz73 := k2 BK547))
      have n0_ : Aside0 (((w67.setCell ⟨gb558, 0, none⟩ (.int .i64 4611686018427387904)).setCell ⟨gb558, 1, none⟩ (.int .i64 t550)).heap[gb546]? = some (.cells #[.int .i64 a0_0, .int .i64 a0_1] 23 (0, 0))) := bu_ BK546
      have n1_ : Aside0 (((w67.setCell ⟨gb558, 0, none⟩ (.int .i64 4611686018427387904)).setCell ⟨gb558, 1, none⟩ (.int .i64 t550)).heap[gb547]? = some (.cells #[.int .i64 t549, .int .i64 t550] 23 (0, 0))) := bu_ BK547
      have n2_ : Aside0 (((w67.setCell ⟨gb558, 0, none⟩ (.int .i64 4611686018427387904)).setCell ⟨gb558, 1, none⟩ (.int .i64 t550)).heap[gb548]? = some (.cells #[.int .i64 0, .int .i64 0] 23 (0, 0))) := bu_ BK548
      have n3_ : Aside0 (((w67.setCell ⟨gb558, 0, none⟩ (.int .i64 4611686018427387904)).setCell ⟨gb558, 1, none⟩ (.int .i64 t550)).heap[gb554]? = some (.cells #[.int .i64 t551, .int .i64 t552] 23 (0, 0))) := bu_ BK554
      have n4_ : Aside0 (((w67.setCell ⟨gb558, 0, none⟩ (.int .i64 4611686018427387904)).setCell ⟨gb558, 1, none⟩ (.int .i64 t550)).heap[gb558]? = some (.cells #[.int .i64 4611686018427387904, .int .i64 t550] 23 (0, 0))) := bq_ BK558
      have n5_ : Aside0 (Below w.heap.size w ((w67.setCell ⟨gb558, 0, none⟩ (.int .i64 4611686018427387904)).setCell ⟨gb558, 1, none⟩ (.int .i64 t550))) := ⟨bf HB⟩
      (try clear BK546); (try clear BK547); (try clear BK548); (try clear BK554); (try clear BK558); (try clear HB)
      generalize ((w67.setCell ⟨gb558, 0, none⟩ (.int .i64 4611686018427387904)).setCell ⟨gb558, 1, none⟩ (.int .i64 t550)) = w74 at n0_ n1_ n2_ n3_ n4_ n5_ ⊢
      have BK546 := n0_
      have BK547 := n1_
      have BK548 := n2_
      have BK554 := n3_
      have BK558 := n4_
      have HB := n5_
      clear n0_ n1_ n2_ n3_ n4_ n5_
      replace BK546 := Aside0.mk (blk_drew BK546.out)
      replace BK547 := Aside0.mk (blk_drew BK547.out)
      replace BK548 := Aside0.mk (blk_drew BK548.out)
      replace BK554 := Aside0.mk (blk_drew BK554.out)
      replace BK558 := Aside0.mk (blk_drew BK558.out)
      replace HB := Aside0.mk (below_drew1 HB.out)
      refine start_ (n := 8) (S := fun w' => w'.cell? ⟨gb546, 0, none⟩ = some (.int .i64 a0_0) ∧ w'.cell? ⟨gb546, 1, none⟩ = some (.int .i64 a0_1) ∧ w'.cell? ⟨gb558, 0, none⟩ = some (.int .i64 4611686018427387904) ∧ w'.cell? ⟨gb558, 1, none⟩ = some (.int .i64 t550)) (ds := []) (m_ 8 0) (by kernel_rfl) rfl rfl ⟨ct BK546 0, ct BK546 1, ct BK558 0, ct BK558 1⟩ (fun hHeld => ?_); refine with_tabW carrefourref02_Sub.tab8 carrefourref02_Sub.bits8 (fun HT_ HW_ => ?_)
      generalize w74.drew = w75 at BK546 BK547 BK548 BK554 BK558 HB hHeld ⊢
      refine tk_ 0 (some 30) (m_ 8 1) rfl rfl (tw HT_ HW_) hHeld ?_
      refine tk_ 2 (some 32) (m_ 8 5) rfl rfl (tw HT_ HW_) hHeld ?_
      refine one_ (i := 1) (N := some 31) (m_ 8 7) rfl rfl (one_of HT_.out (by kernel_rfl)) (by decide) (fun K hK => ?_)
      refine goes_ Tryd.func45 (by kernel_rfl) rfl #[.agg #[.int .i64 a0_0, .int .i64 a0_1]] (by rfl) rfl rfl ag ?_
      with_reducible refine (carrefourref02_Norm.calls _ _ _ _ _ _ A50.out).mono ?_
      rintro e w76 ⟨rfl, hb⟩
      refine ⟨_, rfl, ?_⟩
      replace BK546 := bb BK546 hb
      replace BK547 := bb BK547 hb
      replace BK548 := bb BK548 hb
      replace BK554 := bb BK554 hb
      replace BK558 := bb BK558 hb
      replace HB := bs HB hb
      (try clear hb)
      refine hK.out _ _ ⟨ct BK546 0, ct BK546 1, ct BK558 0, ct BK558 1⟩ (fun hHeld => ?_)
      clear hK K
      refine nr_ (some 31) ?_
      refine one_ (i := 3) (N := some 33) (m_ 8 15) rfl rfl (one_of HT_.out (by kernel_rfl)) (by decide) (fun K hK => ?_)
      refine goes_ Tryd.func69 (by kernel_rfl) rfl #[.agg #[.int .i64 t559, .int .i64 t560], .agg #[.int .i64 4611686018427387904, .int .i64 t550]] (by rfl) rfl rfl ag ?_
      with_reducible refine (carrefourref02_twiceAdded.calls _ _ _ _ _ _ _ _ _ A51.out).mono ?_
      rintro e w77 ⟨rfl, hb⟩
      refine ⟨_, rfl, ?_⟩
      replace BK546 := bb BK546 hb
      replace BK547 := bb BK547 hb
      replace BK548 := bb BK548 hb
      replace BK554 := bb BK554 hb
      replace BK558 := bb BK558 hb
      replace HB := bs HB hb
      (try clear hb)
      refine hK.out _ _ ⟨ct BK546 0, ct BK546 1, ct BK558 0, ct BK558 1⟩ (fun hHeld => ?_)
      clear hK K
      refine nr_ (some 33) ?_
      refine pu_ 4 (some 34) (m_ 8 31) rfl rfl (ao HT_) ?_
      refine pu_ 5 (some 35) (m_ 8 63) rfl rfl (ao HT_) ?_
      refine one_ (i := 6) (N := none) (m_ 8 127) rfl rfl (one_of HT_.out (by kernel_rfl)) (by decide) (fun K hK => ?_)
      have hs78 : w77.cell? ⟨gb548, 0, none⟩ = some (.int .i64 0) := ct BK548 0
      have hfs78 := blk_frozen BK548.out 0
      have hns78_0 := NB546_548.out
      have hns78_1 := NB547_548.out
      have hns78_3 := NB554_548.out
      have hns78_4 := NB558_548.out
      have hms78_0 := NB548_546.out
      have hms78_1 := NB548_547.out
      have hms78_3 := NB548_554.out
      have hms78_4 := NB548_558.out
      have hs79 : w77.cell? ⟨gb548, 1, none⟩ = some (.int .i64 0) := ct BK548 1
      have hfs79 := blk_frozen BK548.out 1
      have hns79_0 := NB546_548.out
      have hns79_1 := NB547_548.out
      have hns79_3 := NB554_548.out
      have hns79_4 := NB558_548.out
      have hms79_0 := NB548_546.out
      have hms79_1 := NB548_547.out
      have hms79_3 := NB548_554.out
      have hms79_4 := NB548_558.out
      refine skip_ (w1 := ?_) (by rfl) rfl ?_ ?_
      rotate_left
      · go_simp
        rfl
      refine hK.out _ _ ⟨((cell_far (p := ⟨gb548, _, none⟩) NB546_548.out _).trans (((cell_far (p := ⟨gb548, _, none⟩) NB546_548.out _).trans (hHeld.1)))), ((cell_far (p := ⟨gb548, _, none⟩) NB546_548.out _).trans (((cell_far (p := ⟨gb548, _, none⟩) NB546_548.out _).trans (hHeld.2.1)))), ((cell_far (p := ⟨gb548, _, none⟩) NB558_548.out _).trans (((cell_far (p := ⟨gb548, _, none⟩) NB558_548.out _).trans (hHeld.2.2.1)))), ((cell_far (p := ⟨gb548, _, none⟩) NB558_548.out _).trans (((cell_far (p := ⟨gb548, _, none⟩) NB558_548.out _).trans (hHeld.2.2.2))))⟩ (fun hHeld => ?_)
      clear hK K
      refine pu_ 7 (some 5) (m_ 8 255) rfl rfl (ao HT_) ?_
      refine done_ (done_of HT_.out (by kernel_rfl)) ?_
      try go_wp2
      refine bodyPost_ret (results_ct rfl _ _ gb548 23 #[.int .i64 t561, .int .i64 t562] (0, 0) _ rfl (br_ BK548) Tryd.underlying23 rfl (by kernel_rfl)) rfl ?_
      exact ⟨by first | rfl | (simp [errW_none, errW_some] <;> rfl) | (simp [*, errW_none, errW_some] <;> rfl), bf HB⟩

/-! ### carrefourref02_Div: function 38 -/
def carrefourref02_Div.T7 : Bool × List (List Nat × List Nat) := (true, [([], []), ([0], [0]), ([1], [1]), ([], []), ([3], [3]), ([4], [4]), ([2, 5, 2], [2, 5]), ([6, 6], [6]), ([7, 7, 0, 1, 2, 3, 4, 5, 6, 7], [7])])
def carrefourref02_Div.B7 : List Nat := [0, 1, 3, 0, 8, 24, 63, 127, 255]
theorem carrefourref02_Div.tab7 : rtab .any (opsOf Tryd.f38 7) = carrefourref02_Div.T7 := by kernel_rfl
theorem carrefourref02_Div.bits7 : waitsOk carrefourref02_Div.T7.2 carrefourref02_Div.B7 = true := by kernel_rfl
def carrefourref02_Div.T8 : Bool × List (List Nat × List Nat) := (true, [([], []), ([0], [0]), ([1], [1]), ([], []), ([3], [3]), ([4], [4]), ([2, 5, 5], [2, 5]), ([6, 6], [6]), ([7, 7, 0, 1, 2, 3, 4, 5, 6, 7], [7])])
def carrefourref02_Div.B8 : List Nat := [0, 1, 3, 0, 8, 24, 63, 127, 255]
theorem carrefourref02_Div.tab8 : rtab .any (opsOf Tryd.f38 8) = carrefourref02_Div.T8 := by kernel_rfl
theorem carrefourref02_Div.bits8 : waitsOk carrefourref02_Div.T8.2 carrefourref02_Div.B8 = true := by kernel_rfl
set_option maxHeartbeats 8000000 in
set_option maxRecDepth 100000 in
theorem carrefourref02_Div.calls (k : Nat) (a0_0 : Int) (a0_1 : Int) (a1_0 : Int) (a1_1 : Int) (r1 : Int) (r2 : Int) (r3 : Int) (w : World) (h : carrefourref02_Div.f k a0_0 a0_1 a1_0 a1_1 = some (r1, r2, r3)) :
    Calls Tryd.prog 38 #[.agg #[.int .i64 a0_0, .int .i64 a0_1], .agg #[.int .i64 a1_0, .int .i64 a1_1]] w fun e w' => e = .returned (.tuple #[.agg #[.int .i64 r1, .int .i64 r2], .int .i64 r3]) ∧ Below w.heap.size w w' := by
  have hu23 := Tryd.underlying23
  have HB := Aside0.mk (Below.refl w.heap.size w)
  have H : ((carrefourref02_Norm.f k a0_0 a0_1).bind fun bt567 => ((carrefourref02_Norm.f k a1_0 a1_1).bind fun bt569 => (if bt569.1 = 0 then (some (0, 0, 3)) else ((carrefourref02_few.f bt567.1 bt567.2 bt569.1 bt569.2).bind fun t571 => (if t571 = true then ((carrefourref02_Of.f k (wrap64 (bt567.1 * bt569.2)) (wrap64 (bt567.2 * bt569.1))).bind fun bt572 => (some (bt572.1, bt572.2.1, bt572.2.2))) else ((carrefourref01_Size.f bt567.1).bind fun t575 => ((carrefourref01_Times.f k t575 (IntKind.u64.wrap (bt569.2))).bind fun t576 => ((carrefourref02_trim.f k t576).bind fun t579 => ((carrefourref01_Size.f bt569.1).bind fun t582 => ((carrefourref01_Times.f k (IntKind.u64.wrap (bt567.2)) t582).bind fun t583 => ((carrefourref02_trim.f k t583).bind fun t586 => ((carrefourref02_lowest.f k t579 t586 ((decide (bt567.1 < 0)) != (decide (bt569.1 < 0)))).bind fun bt589 => (some (bt589.1, bt589.2.1, bt589.2.2)))))))))))))) = some (r1, r2, r3) := h
  clear h
  replace H := bi_ H; obtain ⟨⟨t567, t568⟩, A3, H⟩ := H
  (try dsimp only at H)
  replace H := bi_ H; obtain ⟨⟨t569, t570⟩, A4, H⟩ := H
  (try dsimp only at H)
  by_cases c5 : t569 = 0
  · rw [if_pos c5] at H
    have c5b0 : (t569 == 0) = true := beq_iff_eq.mpr c5
    have c5b1 : (t569 != 0) = false := bne_eq_false_iff_eq.mpr c5
    clear c5
    simp only [Option.some.injEq, Prod.mk.injEq] at H
    obtain ⟨rfl, rfl, rfl⟩ := H
    go_enter Tryd.func38, Tryd.ntmps38
    go_wp2_with (first | ((with_reducible refine gd 2 rfl ?_); refine bx_ 2 23 #[.int .i64 a0_0, .int .i64 a0_1] rfl rfl ?_; intro gb564 hg w6 BK564 hb; have GE564 := bz HB hg; replace HB := bs HB hb; clear hb hg) | ((with_reducible refine gd 3 rfl ?_); refine bx_ 3 23 #[.int .i64 a1_0, .int .i64 a1_1] rfl rfl ?_; intro gb565 hg w7 BK565 hb; have GE565 := bz HB hg; have ⟨NB564_565, NB565_564⟩ := nb BK564 hg; replace BK564 := bb BK564 hb; replace HB := bs HB hb; clear hb hg) | ((with_reducible refine gd 4 rfl ?_); refine bx_ 4 23 #[.int .i64 0, .int .i64 0] rfl rfl ?_; intro gb566 hg w8 BK566 hb; have GE566 := bz HB hg; have ⟨NB564_566, NB566_564⟩ := nb BK564 hg; have ⟨NB565_566, NB566_565⟩ := nb BK565 hg; replace BK564 := bb BK564 hb; replace BK565 := bb BK565 hb; replace HB := bs HB hb; clear hb hg; have hnb9 := nn NB564_565; have hnb10 := nn NB564_566; have hcz11 := k2 BK564) | ((with_reducible refine gc 45 rfl ?_); refine gl_ (some 9) rfl rfl Tryd.func45 ((carrefourref02_Norm.calls _ _ _ _ _ _ A3.out).mono ?_) ag; rintro e w12 ⟨rfl, hb⟩; refine ⟨_, rfl, ?_⟩; replace BK564 := bb BK564 hb; replace BK565 := bb BK565 hb; replace BK566 := bb BK566 hb; replace HB := bs HB hb; (try clear hb); have hcz13 := k2 BK564; have hnb14 := nn NB565_566; have hcz15 := k2 BK565) | ((with_reducible refine gc 45 rfl ?_); refine gl_ (some 11) rfl rfl Tryd.func45 ((carrefourref02_Norm.calls _ _ _ _ _ _ A4.out).mono ?_) ag; rintro e w16 ⟨rfl, hb⟩; refine ⟨_, rfl, ?_⟩; replace BK564 := bp_ #[.int .i64 t567, .int .i64 t568] BK564 hb; replace BK565 := bb BK565 hb; replace BK566 := bb BK566 hb; replace HB := bs HB hb; (try clear hb); have hcz17 := k2 BK565; have hcz18 := k2 BK566))
    refine bodyPost_ret (results_ct rfl _ _ gb566 23 #[.int .i64 0, .int .i64 0] (0, 0) _ rfl (br_ BK566) Tryd.underlying23 rfl (by kernel_rfl)) rfl ?_
    exact ⟨by first | rfl | (simp [errW_none, errW_some] <;> rfl) | (simp [*, errW_none, errW_some] <;> rfl), bf HB⟩
  · rw [if_neg c5] at H
    have c5b0 : (t569 == 0) = false := beq_eq_false_iff_ne.mpr c5
    have c5b1 : (t569 != 0) = true := bne_iff_ne.mpr c5
    replace H := bi_ H; obtain ⟨t571, A19, H⟩ := H
    (try dsimp only at H)
    by_cases c20 : t571 = true
    · subst c20
      have H1 : ((carrefourref02_Of.f k (wrap64 (t567 * t570)) (wrap64 (t568 * t569))).bind fun bt572 => (some (bt572.1, bt572.2.1, bt572.2.2))) = some (r1, r2, r3) := by rw [if_pos rfl] at H; exact H
      clear H
      have H := H1
      clear H1
      replace H := bi_ H; obtain ⟨⟨t572, t573, t574⟩, A21, H⟩ := H
      (try dsimp only at H)
      simp only [Option.some.injEq, Prod.mk.injEq] at H
      obtain ⟨rfl, rfl, rfl⟩ := H
      go_enter Tryd.func38, Tryd.ntmps38
      go_wp2_with (first | ((with_reducible refine gd 2 rfl ?_); refine bx_ 2 23 #[.int .i64 a0_0, .int .i64 a0_1] rfl rfl ?_; intro gb564 hg w22 BK564 hb; have GE564 := bz HB hg; replace HB := bs HB hb; clear hb hg) | ((with_reducible refine gd 3 rfl ?_); refine bx_ 3 23 #[.int .i64 a1_0, .int .i64 a1_1] rfl rfl ?_; intro gb565 hg w23 BK565 hb; have GE565 := bz HB hg; have ⟨NB564_565, NB565_564⟩ := nb BK564 hg; replace BK564 := bb BK564 hb; replace HB := bs HB hb; clear hb hg) | ((with_reducible refine gd 4 rfl ?_); refine bx_ 4 23 #[.int .i64 0, .int .i64 0] rfl rfl ?_; intro gb566 hg w24 BK566 hb; have GE566 := bz HB hg; have ⟨NB564_566, NB566_564⟩ := nb BK564 hg; have ⟨NB565_566, NB566_565⟩ := nb BK565 hg; replace BK564 := bb BK564 hb; replace BK565 := bb BK565 hb; replace HB := bs HB hb; clear hb hg; have hnb25 := nn NB564_565; have hnb26 := nn NB564_566; have hcz27 := k2 BK564) | ((with_reducible refine gc 45 rfl ?_); refine gl_ (some 9) rfl rfl Tryd.func45 ((carrefourref02_Norm.calls _ _ _ _ _ _ A3.out).mono ?_) ag; rintro e w28 ⟨rfl, hb⟩; refine ⟨_, rfl, ?_⟩; replace BK564 := bb BK564 hb; replace BK565 := bb BK565 hb; replace BK566 := bb BK566 hb; replace HB := bs HB hb; (try clear hb); have hcz29 := k2 BK564; have hnb30 := nn NB565_566; have hcz31 := k2 BK565) | ((with_reducible refine gc 45 rfl ?_); refine gl_ (some 11) rfl rfl Tryd.func45 ((carrefourref02_Norm.calls _ _ _ _ _ _ A4.out).mono ?_) ag; rintro e w32 ⟨rfl, hb⟩; refine ⟨_, rfl, ?_⟩; replace BK564 := bp_ #[.int .i64 t567, .int .i64 t568] BK564 hb; replace BK565 := bb BK565 hb; replace BK566 := bb BK566 hb; replace HB := bs HB hb; (try clear hb); have hcz33 := k2 BK565; have hcz34 := k2 BK564) | ((with_reducible refine gc 46 rfl ?_); refine gl_ (some 18) rfl rfl Tryd.func46 ((carrefourref02_few.calls _ _ _ _ _ _ A19.out).mono ?_) ag; rintro e w35 ⟨rfl, hb⟩; refine ⟨_, rfl, ?_⟩; replace BK564 := bb BK564 hb; replace BK565 := bp_ #[.int .i64 t569, .int .i64 t570] BK565 hb; replace BK566 := bb BK566 hb; replace HB := bs HB hb; (try clear hb); have hcz36 := k2 BK564; have hcz37 := k2 BK565) | ((with_reducible refine gc 17 rfl ?_); refine gl_ (some 29) rfl rfl Tryd.func17 ((carrefourref02_Of.calls _ (wrap64 (t567 * t570)) (wrap64 (t568 * t569)) _ _ _ _ A21.out).mono ?_) ag; rintro e w38 ⟨rfl, hb⟩; refine ⟨_, rfl, ?_⟩; replace BK564 := bb BK564 hb; replace BK565 := bb BK565 hb; replace BK566 := bb BK566 hb; replace HB := bs HB hb; (try clear hb); have hcz39 := k2 BK566))
      refine bodyPost_ret (results_ct rfl _ _ gb566 23 #[.int .i64 t572, .int .i64 t573] (0, 0) _ rfl (br_ BK566) Tryd.underlying23 rfl (by kernel_rfl)) rfl ?_
      exact ⟨by first | rfl | (simp [errW_none, errW_some] <;> rfl) | (simp [*, errW_none, errW_some] <;> rfl), bf HB⟩
    · replace c20 := Bool.eq_false_iff.mpr c20
      subst c20
      have H1 : ((carrefourref01_Size.f t567).bind fun t575 => ((carrefourref01_Times.f k t575 (IntKind.u64.wrap (t570))).bind fun t576 => ((carrefourref02_trim.f k t576).bind fun t579 => ((carrefourref01_Size.f t569).bind fun t582 => ((carrefourref01_Times.f k (IntKind.u64.wrap (t568)) t582).bind fun t583 => ((carrefourref02_trim.f k t583).bind fun t586 => ((carrefourref02_lowest.f k t579 t586 ((decide (t567 < 0)) != (decide (t569 < 0)))).bind fun bt589 => (some (bt589.1, bt589.2.1, bt589.2.2))))))))) = some (r1, r2, r3) := by rw [if_neg (show ¬ (false = true) by decide)] at H; exact H
      clear H
      have H := H1
      clear H1
      replace H := bi_ H; obtain ⟨t575, A40, H⟩ := H
      (try dsimp only at H)
      replace H := bi_ H; obtain ⟨t576, A41, H⟩ := H
      (try dsimp only at H)
      replace H := bi_ H; obtain ⟨t579, A42, H⟩ := H
      (try dsimp only at H)
      replace H := bi_ H; obtain ⟨t582, A43, H⟩ := H
      (try dsimp only at H)
      replace H := bi_ H; obtain ⟨t583, A44, H⟩ := H
      (try dsimp only at H)
      replace H := bi_ H; obtain ⟨t586, A45, H⟩ := H
      (try dsimp only at H)
      replace H := bi_ H; obtain ⟨⟨t589, t590, t591⟩, A46, H⟩ := H
      (try dsimp only at H)
      simp only [Option.some.injEq, Prod.mk.injEq] at H
      obtain ⟨rfl, rfl, rfl⟩ := H
      go_enter Tryd.func38, Tryd.ntmps38
      try go_wp2_with (first | ((with_reducible refine gd 2 rfl ?_); refine bx_ 2 23 #[.int .i64 a0_0, .int .i64 a0_1] rfl rfl ?_; intro gb564 hg w47 BK564 hb; have GE564 := bz HB hg; replace HB := bs HB hb; clear hb hg) | ((with_reducible refine gd 3 rfl ?_); refine bx_ 3 23 #[.int .i64 a1_0, .int .i64 a1_1] rfl rfl ?_; intro gb565 hg w48 BK565 hb; have GE565 := bz HB hg; have ⟨NB564_565, NB565_564⟩ := nb BK564 hg; replace BK564 := bb BK564 hb; replace HB := bs HB hb; clear hb hg) | ((with_reducible refine gd 4 rfl ?_); refine bx_ 4 23 #[.int .i64 0, .int .i64 0] rfl rfl ?_; intro gb566 hg w49 BK566 hb; have GE566 := bz HB hg; have ⟨NB564_566, NB566_564⟩ := nb BK564 hg; have ⟨NB565_566, NB566_565⟩ := nb BK565 hg; replace BK564 := bb BK564 hb; replace BK565 := bb BK565 hb; replace HB := bs HB hb; clear hb hg; have hnb50 := nn NB564_565; have hnb51 := nn NB564_566; have hcz52 := k2 BK564) | ((with_reducible refine gc 45 rfl ?_); refine gl_ (some 9) rfl rfl Tryd.func45 ((carrefourref02_Norm.calls _ _ _ _ _ _ A3.out).mono ?_) ag; rintro e w53 ⟨rfl, hb⟩; refine ⟨_, rfl, ?_⟩; replace BK564 := bb BK564 hb; replace BK565 := bb BK565 hb; replace BK566 := bb BK566 hb; replace HB := bs HB hb; (try clear hb); have hcz54 := k2 BK564; have hnb55 := nn NB565_566; have hcz56 := k2 BK565) | ((with_reducible refine gc 45 rfl ?_); refine gl_ (some 11) rfl rfl Tryd.func45 ((carrefourref02_Norm.calls _ _ _ _ _ _ A4.out).mono ?_) ag; rintro e w57 ⟨rfl, hb⟩; refine ⟨_, rfl, ?_⟩; replace BK564 := bp_ #[.int .i64 t567, .int .i64 t568] BK564 hb; replace BK565 := bb BK565 hb; replace BK566 := bb BK566 hb; replace HB := bs HB hb; (try clear hb); have hcz58 := k2 BK565; have hcz59 := k2 BK564) | ((with_reducible refine gc 46 rfl ?_); refine gl_ (some 18) rfl rfl Tryd.func46 ((carrefourref02_few.calls _ _ _ _ _ _ A19.out).mono ?_) ag; rintro e w60 ⟨rfl, hb⟩; refine ⟨_, rfl, ?_⟩; replace BK564 := bb BK564 hb; replace BK565 := bp_ #[.int .i64 t569, .int .i64 t570] BK565 hb; replace BK566 := bb BK566 hb; replace HB := bs HB hb; (try clear hb)))
      replace BK564 := Aside0.mk (blk_drew BK564.out)
      replace BK565 := Aside0.mk (blk_drew BK565.out)
      replace BK566 := Aside0.mk (blk_drew BK566.out)
      replace HB := Aside0.mk (below_drew1 HB.out)
      refine start_ (n := 9) (S := fun w' => w'.cell? ⟨gb564, 0, none⟩ = some (.int .i64 t567) ∧ w'.cell? ⟨gb564, 1, none⟩ = some (.int .i64 t568) ∧ w'.cell? ⟨gb565, 0, none⟩ = some (.int .i64 t569) ∧ w'.cell? ⟨gb565, 1, none⟩ = some (.int .i64 t570)) (ds := []) (m_ 9 0) (by kernel_rfl) rfl rfl ⟨ct BK564 0, ct BK564 1, ct BK565 0, ct BK565 1⟩ (fun hHeld => ?_); refine with_tabW carrefourref02_Div.tab7 carrefourref02_Div.bits7 (fun HT_ HW_ => ?_)
      generalize w60.drew = w61 at BK564 BK565 BK566 HB hHeld ⊢
      refine pu_ 0 (some 32) (m_ 9 1) rfl rfl (ao HT_) ?_
      refine pu_ 3 (some 35) (m_ 9 9) rfl rfl (ao HT_) ?_
      refine tk_ 1 (some 33) (m_ 9 11) rfl rfl (tw HT_ HW_) hHeld ?_
      refine tk_ 4 (some 36) (m_ 9 27) rfl rfl (tw HT_ HW_) hHeld ?_
      refine pu_ 5 (some 37) (m_ 9 59) rfl rfl (ao HT_) ?_
      refine one_ (i := 2) (N := some 34) (m_ 9 63) rfl rfl (one_of HT_.out (by kernel_rfl)) (by decide) (fun K hK => ?_)
      refine goes_ Tryd.func42 (by kernel_rfl) rfl #[.int .i64 t567] (by rfl) rfl rfl ag ?_
      with_reducible refine (carrefourref01_Size.calls _ _ _ A40.out).mono ?_
      rintro e w' ⟨rfl, ⟨nd, rfl⟩⟩
      refine ⟨_, rfl, ?_⟩
      refine hK.out _ _ ⟨ct BK564 0, ct BK564 1, ct BK565 0, ct BK565 1⟩ (fun hHeld => ?_)
      clear hK K
      refine nr_ (some 34) ?_
      refine one_ (i := 6) (N := some 38) (m_ 9 127) rfl rfl (one_of HT_.out (by kernel_rfl)) (by decide) (fun K hK => ?_)
      refine goes_ Tryd.func48 (by kernel_rfl) rfl #[.int .u64 t575, .int .u64 (IntKind.u64.wrap (t570))] (by rfl) rfl rfl ag ?_
      with_reducible refine (carrefourref01_Times.calls _ _ (IntKind.u64.wrap (t570)) _ _ A41.out).mono ?_
      rintro e w62 ⟨v577, rfl, ho0, hb⟩
      refine ⟨_, rfl, ?_⟩
      have HO578 := Aside0.mk (Kd.R_lower ho0 (below_size (bf HB)))
      replace BK564 := bb BK564 hb
      replace BK565 := bb BK565 hb
      replace BK566 := bb BK566 hb
      replace HB := bs HB hb
      (try clear hb); (try clear ho0)
      obtain ⟨Ao63, co63, eo63⟩ := Kd.R_slice HO578.out
      (first | subst eo63 | (injection eo63 with f1_ f2_ f3_; have f4_ := f1_.symm; have f5_ := f3_.symm; clear f1_ f2_ f3_; subst f4_; subst f5_))
      refine hK.out _ _ ⟨ct BK564 0, ct BK564 1, ct BK565 0, ct BK565 1⟩ (fun hHeld => ?_)
      clear hK K
      refine nr_ (some 38) ?_
      refine one_ (i := 7) (N := some 39) (m_ 9 255) rfl rfl (one_of HT_.out (by kernel_rfl)) (by decide) (fun K hK => ?_)
      refine goes_ Tryd.func47 (by kernel_rfl) rfl #[.slice Ao63 t576.length co63] (by rfl) rfl rfl ag ?_
      with_reducible refine (carrefourref02_trim.calls _ _ _ _ _ _ ?side1 ?side2 A42.out).mono ?_
      (case side1 => exact rc HO578)
      (case side2 => exact (Kd.R_reads' HO578.out).2.1)
      rintro e w64 ⟨v580, rfl, ho0, hb⟩
      refine ⟨_, rfl, ?_⟩
      have HO581 := Aside0.mk (Kd.R_lower (Kd.R_new' ho0 (rl HO578)) (below_size (bf HB)))
      replace HO578 := re_ HO578 (Kd.R_base ho0) hb
      replace BK564 := bb BK564 hb
      replace BK565 := bb BK565 hb
      replace BK566 := bb BK566 hb
      replace HB := bs HB hb
      (try clear hb); (try clear ho0)
      refine hK.out _ _ ⟨ct BK564 0, ct BK564 1, ct BK565 0, ct BK565 1⟩ (fun hHeld => ?_)
      clear hK K
      refine nr_ (some 39) ?_
      refine pu_ 8 (some 6) (m_ 9 511) rfl rfl (ao HT_) ?_
      refine done_ (done_of HT_.out (by kernel_rfl)) ?_
      try go_wp2
      replace HO578 := Aside0.mk (Kd.R_drew HO578.out)
      replace HO581 := Aside0.mk (Kd.R_drew HO581.out)
      replace BK564 := Aside0.mk (blk_drew BK564.out)
      replace BK565 := Aside0.mk (blk_drew BK565.out)
      replace BK566 := Aside0.mk (blk_drew BK566.out)
      replace HB := Aside0.mk (below_drew1 HB.out)
      refine start_ (n := 9) (S := fun w' => w'.cell? ⟨gb564, 0, none⟩ = some (.int .i64 t567) ∧ w'.cell? ⟨gb564, 1, none⟩ = some (.int .i64 t568) ∧ w'.cell? ⟨gb565, 0, none⟩ = some (.int .i64 t569) ∧ w'.cell? ⟨gb565, 1, none⟩ = some (.int .i64 t570)) (ds := []) (m_ 9 0) (by kernel_rfl) rfl rfl ⟨ct BK564 0, ct BK564 1, ct BK565 0, ct BK565 1⟩ (fun hHeld => ?_); refine with_tabW carrefourref02_Div.tab8 carrefourref02_Div.bits8 (fun HT_ HW_ => ?_)
      generalize w64.drew = w65 at HO578 HO581 BK564 BK565 BK566 HB hHeld ⊢
      refine pu_ 0 (some 40) (m_ 9 1) rfl rfl (ao HT_) ?_
      refine pu_ 3 (some 43) (m_ 9 9) rfl rfl (ao HT_) ?_
      refine tk_ 1 (some 41) (m_ 9 11) rfl rfl (tw HT_ HW_) hHeld ?_
      refine pu_ 2 (some 42) (m_ 9 15) rfl rfl (ao HT_) ?_
      refine tk_ 4 (some 44) (m_ 9 31) rfl rfl (tw HT_ HW_) hHeld ?_
      refine one_ (i := 5) (N := some 45) (m_ 9 63) rfl rfl (one_of HT_.out (by kernel_rfl)) (by decide) (fun K hK => ?_)
      refine goes_ Tryd.func42 (by kernel_rfl) rfl #[.int .i64 t569] (by rfl) rfl rfl ag ?_
      with_reducible refine (carrefourref01_Size.calls _ _ _ A43.out).mono ?_
      rintro e w' ⟨rfl, ⟨nd, rfl⟩⟩
      refine ⟨_, rfl, ?_⟩
      refine hK.out _ _ ⟨ct BK564 0, ct BK564 1, ct BK565 0, ct BK565 1⟩ (fun hHeld => ?_)
      clear hK K
      refine nr_ (some 45) ?_
      refine one_ (i := 6) (N := some 46) (m_ 9 127) rfl rfl (one_of HT_.out (by kernel_rfl)) (by decide) (fun K hK => ?_)
      refine goes_ Tryd.func48 (by kernel_rfl) rfl #[.int .u64 (IntKind.u64.wrap (t568)), .int .u64 t582] (by rfl) rfl rfl ag ?_
      with_reducible refine (carrefourref01_Times.calls _ (IntKind.u64.wrap (t568)) _ _ _ A44.out).mono ?_
      rintro e w66 ⟨v584, rfl, ho0, hb⟩
      refine ⟨_, rfl, ?_⟩
      have HO585 := Aside0.mk (Kd.R_lower (Kd.R_new' (Kd.R_new' ho0 (rl HO578)) (rl HO581)) (below_size (bf HB)))
      replace HO578 := re_ HO578 (Kd.R_base ho0) hb
      replace HO581 := re_ HO581 (Kd.R_base ho0) hb
      replace BK564 := bb BK564 hb
      replace BK565 := bb BK565 hb
      replace BK566 := bb BK566 hb
      replace HB := bs HB hb
      (try clear hb); (try clear ho0)
      obtain ⟨Ao67, co67, eo67⟩ := Kd.R_slice HO585.out
      (first | subst eo67 | (injection eo67 with f1_ f2_ f3_; have f4_ := f1_.symm; have f5_ := f3_.symm; clear f1_ f2_ f3_; subst f4_; subst f5_))
      refine hK.out _ _ ⟨ct BK564 0, ct BK564 1, ct BK565 0, ct BK565 1⟩ (fun hHeld => ?_)
      clear hK K
      refine nr_ (some 46) ?_
      refine one_ (i := 7) (N := some 47) (m_ 9 255) rfl rfl (one_of HT_.out (by kernel_rfl)) (by decide) (fun K hK => ?_)
      refine goes_ Tryd.func47 (by kernel_rfl) rfl #[.slice Ao67 t583.length co67] (by rfl) rfl rfl ag ?_
      with_reducible refine (carrefourref02_trim.calls _ _ _ _ _ _ ?side1 ?side2 A45.out).mono ?_
      (case side1 => exact rc HO585)
      (case side2 => exact (Kd.R_reads' HO585.out).2.1)
      rintro e w68 ⟨v587, rfl, ho0, hb⟩
      refine ⟨_, rfl, ?_⟩
      have HO588 := Aside0.mk (Kd.R_lower (Kd.R_new' (Kd.R_new' (Kd.R_new' ho0 (rl HO578)) (rl HO581)) (rl HO585)) (below_size (bf HB)))
      replace HO578 := re_ HO578 (Kd.R_base ho0) hb
      replace HO581 := re_ HO581 (Kd.R_base ho0) hb
      replace HO585 := re_ HO585 (Kd.R_base ho0) hb
      replace BK564 := bb BK564 hb
      replace BK565 := bb BK565 hb
      replace BK566 := bb BK566 hb
      replace HB := bs HB hb
      (try clear hb); (try clear ho0)
      refine hK.out _ _ ⟨ct BK564 0, ct BK564 1, ct BK565 0, ct BK565 1⟩ (fun hHeld => ?_)
      clear hK K
      refine nr_ (some 47) ?_
      refine pu_ 8 (some 7) (m_ 9 511) rfl rfl (ao HT_) ?_
      refine done_ (done_of HT_.out (by kernel_rfl)) ?_
      have hcz69 := k2 BK564
      have hcz70 := k2 BK565
      obtain ⟨Ao71, co71, eo71⟩ := Kd.R_slice HO581.out
      subst eo71
      obtain ⟨Ao72, co72, eo72⟩ := Kd.R_slice HO588.out
      subst eo72
      try go_wp2_with (first | ((with_reducible refine gc 49 rfl ?_); refine gl_ (some 57) rfl rfl Tryd.func49 ((carrefourref02_lowest.calls _ (fun k_ => some k_ = (.slice Ao71 t579.length co71 : Value).ownBlock) _ _ _ (fun k_ => some k_ = (.slice Ao72 t586.length co72 : Value).ownBlock) _ _ _ ((decide (t567 < 0)) != (decide (t569 < 0))) _ _ _ _ ?side1 ?side2 A46.out).mono ?_) ag; (case side1 => exact Kd.R_V (Kd.R_tight rfl (Kd.R_types (Kd.R_types (Kd.R_types (HO581.out) BK564.out (by decide)) BK565.out (by decide)) BK566.out (by decide)))); (case side2 => exact Kd.R_V (Kd.R_tight rfl (Kd.R_types (Kd.R_types (Kd.R_types (HO588.out) BK564.out (by decide)) BK565.out (by decide)) BK566.out (by decide)))); rintro e w73 ⟨rfl, hb⟩; refine ⟨_, rfl, ?_⟩; replace HO578 := rb HO578 hb; replace HO581 := rb HO581 hb; replace HO585 := rb HO585 hb; replace HO588 := rb HO588 hb; replace BK564 := bb BK564 hb; replace BK565 := bb BK565 hb; replace BK566 := bb BK566 hb; replace HB := bs HB hb; (try clear hb); have hcz74 := k2 BK566))
      refine bodyPost_ret (results_ct rfl _ _ gb566 23 #[.int .i64 t589, .int .i64 t590] (0, 0) _ rfl (br_ BK566) Tryd.underlying23 rfl (by kernel_rfl)) rfl ?_
      exact ⟨by first | rfl | (simp [errW_none, errW_some] <;> rfl) | (simp [*, errW_none, errW_some] <;> rfl), bf HB⟩

/-! ### carrefourref01_Floor: function 92 -/
set_option maxHeartbeats 8000000 in
set_option maxRecDepth 100000 in
theorem carrefourref01_Floor.calls (k : Nat) (a0 : Int) (a1 : Int) (r1 : Int) (r2 : Int) (w : World) (h : carrefourref01_Floor.f k a0 a1 = some (r1, r2)) :
    Calls Tryd.prog 92 #[.int .i64 a0, .int .i64 a1] w fun e w' => e = .returned (.tuple #[.int .i64 r1, .int .i64 r2]) ∧ Drawn0 w w' := by
  have H : (if a1 = 0 then (some (0, 3)) else (if a0 = (-9223372036854775808) then (carrefourref01_Floor.j0 k a0 a1 (a1 == (-1))) else (carrefourref01_Floor.j0 k a0 a1 false))) = some (r1, r2) := h
  clear h
  by_cases c3 : a1 = 0
  · rw [if_pos c3] at H
    have c3b0 : (a1 == 0) = true := beq_iff_eq.mpr c3
    have c3b1 : (a1 != 0) = false := bne_eq_false_iff_eq.mpr c3
    clear c3
    simp only [Option.some.injEq, Prod.mk.injEq] at H
    obtain ⟨rfl, rfl⟩ := H
    go_enter Tryd.func92, Tryd.ntmps92
    go_wp2
    go_ret2
    exact ⟨aq, dr⟩
  · rw [if_neg c3] at H
    have c3b0 : (a1 == 0) = false := beq_eq_false_iff_ne.mpr c3
    have c3b1 : (a1 != 0) = true := bne_iff_ne.mpr c3
    have HC4 := Aside0.mk H
    clear H
    go_enter Tryd.func92, Tryd.ntmps92
    go_upto_region 3 with (fail)
    go_cut [14] (fun v14 wc => ∃ (kq : Nat) (x14_3 : Bool), v14 = .bool x14_3 ∧ Aside0 (carrefourref01_Floor.j0 kq a0 a1 x14_3 = some (r1, r2)) ∧ Aside0 (kq ≤ k) ∧ Drawn0 w wc)
    case first =>
      have H := HC4.out
      clear HC4
      by_cases c5 : a0 = (-9223372036854775808)
      · rw [if_pos c5] at H
        have c5b0 : (a0 == (-9223372036854775808)) = true := beq_iff_eq.mpr c5
        have c5b1 : (a0 != (-9223372036854775808)) = false := bne_eq_false_iff_eq.mpr c5
        clear c5
        (first | rw [c5b0] | (simp only [i64_w, i32_w]; rw [c5b0]) | skip)
        have H' := Aside0.mk H
        clear H
        go_wp2
        go_meet
        case rel => exact ⟨_, ((a1 == (-1))), (aq), H', ⟨by first | omega | exact Nat.le_refl _⟩, dr⟩
      · rw [if_neg c5] at H
        have c5b0 : (a0 == (-9223372036854775808)) = false := beq_eq_false_iff_ne.mpr c5
        have c5b1 : (a0 != (-9223372036854775808)) = true := bne_iff_ne.mpr c5
        (first | rw [c5b0] | (simp only [i64_w, i32_w]; rw [c5b0]) | skip)
        have H' := Aside0.mk H
        clear H
        go_wp2
        go_meet
        case rel => exact ⟨_, (false), (aq), H', ⟨by first | omega | exact Nat.le_refl _⟩, dr⟩
    case rest =>
      clear HC4
      try clear p2
      try clear c3
      try clear c3b0
      try clear c3b1
      try clear c5
      try clear c5b0
      try clear c5b1
      obtain ⟨kq, x14_3, rfl, HA, HJ3, ⟨mc3, rfl⟩⟩ := hcut
      cases kq with
      | zero => exact absurd HA.out (by simp [carrefourref01_Floor.j0])
      | succ kj3 =>
        have H := HA.out
        clear HA
        simp only [carrefourref01_Floor.j0] at H
        by_cases c6 : x14_3 = true
        · subst c6
          have H1 : (some (0, 2)) = some (r1, r2) := by rw [if_pos rfl] at H; exact H
          clear H
          have H := H1
          clear H1
          simp only [Option.some.injEq, Prod.mk.injEq] at H
          obtain ⟨rfl, rfl⟩ := H
          go_wp2
          go_ret2
          exact ⟨aq, dr⟩
        · replace c6 := Bool.eq_false_iff.mpr c6
          subst c6
          have H1 : (if a1 = 0 then (none) else (if (Int.tmod a0 a1) = 0 then (some (wrap64 (Int.tdiv a0 a1), 0)) else (if ((decide (a0 < 0)) != (decide (a1 < 0))) = true then (some (wrap64 ((wrap64 (Int.tdiv a0 a1)) - 1), 0)) else (some (wrap64 (Int.tdiv a0 a1), 0))))) = some (r1, r2) := by rw [if_neg (show ¬ (false = true) by decide)] at H; exact H
          clear H
          have H := H1
          clear H1
          by_cases c7 : a1 = 0
          · rw [if_pos c7] at H
            exact absurd H (by simp)
          · rw [if_neg c7] at H
            have c7b0 : (a1 == 0) = false := beq_eq_false_iff_ne.mpr c7
            have c7b1 : (a1 != 0) = true := bne_iff_ne.mpr c7
            by_cases c8 : (Int.tmod a0 a1) = 0
            · rw [if_pos c8] at H
              have c8b0 : ((Int.tmod a0 a1) == 0) = true := beq_iff_eq.mpr c8
              have c8b1 : ((Int.tmod a0 a1) != 0) = false := bne_eq_false_iff_eq.mpr c8
              clear c8
              simp only [Option.some.injEq, Prod.mk.injEq] at H
              obtain ⟨rfl, rfl⟩ := H
              go_wp2
              go_ret2
              exact ⟨aq, dr⟩
            · rw [if_neg c8] at H
              have c8b0 : ((Int.tmod a0 a1) == 0) = false := beq_eq_false_iff_ne.mpr c8
              have c8b1 : ((Int.tmod a0 a1) != 0) = true := bne_iff_ne.mpr c8
              by_cases c9 : ((decide (a0 < 0)) != (decide (a1 < 0))) = true
              · rw [if_pos c9] at H
                have c9b0 : ((decide (a0 < 0)) != (decide (a1 < 0))) = true := c9
                (try (have c9b1 : decide ((decide (a0 < 0)) = (decide (a1 < 0))) = false := by simpa using c9))
                (try (have c9b2 : ((decide (a0 < 0)) == (decide (a1 < 0))) = false := by simpa using c9))
                (try (have c9b3 : ¬ ((decide (a0 < 0)) = (decide (a1 < 0))) := by simpa using c9))
                clear c9
                simp only [Option.some.injEq, Prod.mk.injEq] at H
                obtain ⟨rfl, rfl⟩ := H
                go_wp2
                go_ret2
                exact ⟨aq, dr⟩
              · rw [if_neg c9] at H
                have c9b0 : ((decide (a0 < 0)) != (decide (a1 < 0))) = false := by simpa using c9
                (try (have c9b1 : decide ((decide (a0 < 0)) = (decide (a1 < 0))) = true := by simpa using c9))
                (try (have c9b2 : ((decide (a0 < 0)) == (decide (a1 < 0))) = true := by simpa using c9))
                clear c9
                simp only [Option.some.injEq, Prod.mk.injEq] at H
                obtain ⟨rfl, rfl⟩ := H
                go_wp2
                go_ret2
                exact ⟨aq, dr⟩

end Go.Proofs.YtpdmiookdmncpaaDoor.X
