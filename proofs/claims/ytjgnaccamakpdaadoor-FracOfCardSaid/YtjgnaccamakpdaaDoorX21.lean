/- The walks of functions of the program, laid by a program of this session over the translation: each '.calls' says that the Go function comes to what its Lean function tells. Conditions: as each theorem's head says. -/
import Derived.Test.YtjgnaccamakpdaaDoorXD
import Derived.Test.YtjgnaccamakpdaaDoorX0
import Derived.Test.YtjgnaccamakpdaaDoorX8
import Derived.Test.YtjgnaccamakpdaaDoorX11
import Derived.Test.YtjgnaccamakpdaaDoorX19
import Derived.Test.YtjgnaccamakpdaaDoorX20
namespace Go.Proofs.YtjgnaccamakpdaaDoor.X
open Go.RowKit Go.Proofs.YtjgnaccamakpdaaDoorW.PrintWords Go.Proofs.YtjgnaccamakpdaaDoorW.PrintLast Go.Proofs.YtjgnaccamakpdaaDoorW.PrintMore
attribute [local go_sem] max2_int min2_int max_two min_two max_three min_three max_four min_four   -- for this text's walks alone
set_option linter.unusedVariables false
set_option linter.unusedSimpArgs false

/-! ### carrefourlaw02_FracOf: function 4 -/
def carrefourlaw02_FracOf.T4 : Bool × List (List Nat × List Nat) := (true, [([], []), ([], []), ([], []), ([], []), ([0, 1, 2, 3], [0, 1, 2, 3]), ([4, 4], [4]), ([5], [5]), ([6, 5, 5], [5, 6]), ([5], [5]), ([8, 7, 5], [5, 8]), ([7, 9, 5], [5, 7, 9]), ([5, 10], [5, 10]), ([11, 9], [11]), ([12], [12]), ([13, 12], [12, 13]), ([14, 12, 12], [12, 14]), ([15], [15]), ([16, 15, 15], [15, 16]), ([15, 17, 12], [12, 15, 17]), ([12, 18], [12, 18]), ([19, 17], [19]), ([20, 20], [20]), ([20, 21], [20, 21]), ([22, 21, 0, 1, 2, 3, 4, 5, 6, 7, 8, 9, 10, 11, 12, 13, 14, 15, 16, 17, 18, 19, 20, 21, 22], [22])])
def carrefourlaw02_FracOf.B4 : List Nat := [0, 0, 0, 0, 15, 31, 63, 127, 63, 511, 1023, 2047, 4095, 8191, 16383, 32767, 65535, 131071, 262143, 524287, 1048575, 2097151, 4194303, 8388607]
theorem carrefourlaw02_FracOf.tab4 : rtab .any (opsOf Tryd.f4 4) = carrefourlaw02_FracOf.T4 := by kernel_rfl
theorem carrefourlaw02_FracOf.bits4 : waitsOk carrefourlaw02_FracOf.T4.2 carrefourlaw02_FracOf.B4 = true := by kernel_rfl
set_option maxHeartbeats 8000000 in
set_option maxRecDepth 100000 in
theorem carrefourlaw02_FracOf.calls (k : Nat) (a0 : Int) (a1 : Int) (r : Bool) (w : World) (h : carrefourlaw02_FracOf.f k a0 a1 = some r) (hT : TabOK w) :
    Calls Tryd.prog 4 #[.int .i64 a0, .int .i64 a1] w fun e w' => e = .returned (.bool r) ∧ Below w.heap.size w w' := by
  have GT := Aside0.mk hT
  clear hT
  have hu23 := Tryd.underlying23
  have HB := Aside0.mk (Below.refl w.heap.size w)
  have H : ((frac_Of.f k a0 a1).bind fun bt658 => ((carrefourref02_Of.f k a0 a1).bind fun bt662 => ((carrefourlaw02_same.f bt658.1 bt658.2.1 bt658.2.2 bt662.1 bt662.2.1 bt662.2.2).bind fun t667 => (if t667 = true then ((frac_Right.f k a0 a1).bind fun t668 => ((carrefourref02_Right.f k a0 a1).bind fun t669 => (if (t668 == t669) = true then (if bt658.2.2 = 0 then ((frac_Right.f k bt658.1 bt658.2.1).bind fun t670 => (if t670 = true then ((carrefourlaw02_awake.f k).bind fun t671 => (some t671)) else (some false))) else ((carrefourlaw02_awake.f k).bind fun t672 => (some t672))) else (some false)))) else (some false))))) = some r := h
  clear h
  replace H := bi_ H; obtain ⟨⟨t658, t659, t660⟩, A3, H⟩ := H
  (try dsimp only at H)
  replace H := bi_ H; obtain ⟨⟨t662, t663, t664⟩, A4, H⟩ := H
  (try dsimp only at H)
  replace H := bi_ H; obtain ⟨t667, A5, H⟩ := H
  (try dsimp only at H)
  by_cases c6 : t667 = true
  · subst c6
    have H1 : ((frac_Right.f k a0 a1).bind fun t668 => ((carrefourref02_Right.f k a0 a1).bind fun t669 => (if (t668 == t669) = true then (if t660 = 0 then ((frac_Right.f k t658 t659).bind fun t670 => (if t670 = true then ((carrefourlaw02_awake.f k).bind fun t671 => (some t671)) else (some false))) else ((carrefourlaw02_awake.f k).bind fun t672 => (some t672))) else (some false)))) = some r := by rw [if_pos rfl] at H; exact H
    clear H
    have H := H1
    clear H1
    replace H := bi_ H; obtain ⟨t668, A7, H⟩ := H
    (try dsimp only at H)
    replace H := bi_ H; obtain ⟨t669, A8, H⟩ := H
    (try dsimp only at H)
    by_cases c9 : (t668 == t669) = true
    · rw [if_pos c9] at H
      have c9b0 : (t668 == t669) = true := c9
      (try (have c9b1 : decide (t668 = t669) = true := by simpa using c9))
      (try (have c9b2 : (t668 == t669) = true := by simpa using c9))
      clear c9
      by_cases c10 : t660 = 0
      · rw [if_pos c10] at H
        have c10b0 : (t660 == 0) = true := beq_iff_eq.mpr c10
        have c10b1 : (t660 != 0) = false := bne_eq_false_iff_eq.mpr c10
        clear c10
        replace H := bi_ H; obtain ⟨t670, A11, H⟩ := H
        (try dsimp only at H)
        by_cases c12 : t670 = true
        · subst c12
          have H1 : ((carrefourlaw02_awake.f k).bind fun t671 => (some t671)) = some r := by rw [if_pos rfl] at H; exact H
          clear H
          have H := H1
          clear H1
          replace H := bi_ H; obtain ⟨t671, A13, H⟩ := H
          (try dsimp only at H)
          obtain rfl := Option.some.inj H
          go_enter Tryd.func4, Tryd.ntmps4
          try go_wp2_with (first | ((with_reducible refine gc 16 rfl ?_); refine gl_ (some 13) rfl rfl Tryd.func16 ((frac_Of.calls _ _ _ _ _ _ _ A3.out ?hT).mono ?_) ag; (case hT => first | exact tb GT.out HB | exact tb0 GT.out); rintro e w14 ⟨rfl, hb⟩; refine ⟨_, rfl, ?_⟩; replace HB := bs HB hb; (try clear hb)) | ((with_reducible refine gd 5 rfl ?_); refine bx_ 5 23 #[.int .i64 0, .int .i64 0] rfl rfl ?_; intro gb661 hg w15 BK661 hb; have GE661 := bz HB hg; replace HB := bs HB hb; clear hb hg; have hcz16 := k2 BK661) | ((with_reducible refine gc 17 rfl ?_); refine gl_ (some 19) rfl rfl Tryd.func17 ((carrefourref02_Of.calls _ _ _ _ _ _ _ A4.out).mono ?_) ag; rintro e w17 ⟨rfl, hb⟩; refine ⟨_, rfl, ?_⟩; replace BK661 := bp_ #[.int .i64 t658, .int .i64 t659] BK661 hb; replace HB := bs HB hb; (try clear hb)) | ((with_reducible refine gd 7 rfl ?_); refine bx_ 7 23 #[.int .i64 0, .int .i64 0] rfl rfl ?_; intro gb665 hg w18 BK665 hb; have GE665 := bz HB hg; have ⟨NB661_665, NB665_661⟩ := nb BK661 hg; replace BK661 := bb BK661 hb; replace HB := bs HB hb; clear hb hg; have hnb19 := nn NB665_661; have hcz20 := k2 BK665) | ((with_reducible refine gd 9 rfl ?_); refine bx_ 9 23 #[.int .i64 0, .int .i64 0] rfl rfl ?_; intro gb666 hg w21 BK666 hb; have GE666 := bz HB hg; have ⟨NB661_666, NB666_661⟩ := nb BK661 hg; have NB665_666 := Aside0.mk ((by rw [hg]; exact Nat.ne_of_lt (blk_lt (g := gb665) (o := .cells #[.int .i64 t662, .int .i64 t663] 23 (0, 0)) (br_ BK665)) : gb665 ≠ gb666)); have NB666_665 := Aside0.mk ((by rw [hg]; exact Nat.ne_of_gt (blk_lt (g := gb665) (o := .cells #[.int .i64 t662, .int .i64 t663] 23 (0, 0)) (br_ BK665)) : gb666 ≠ gb665)); replace BK661 := bb BK661 hb; replace BK665 := bp_ #[.int .i64 t662, .int .i64 t663] BK665 hb; replace HB := bs HB hb; clear hb hg; have hnb22 := nn NB666_661; have hnb23 := nn NB666_665; have hcz24 := k2 BK666))
          have n0_ : Aside0 (((w21.setCell ⟨gb666, 0, none⟩ (.int .i64 a0)).setCell ⟨gb666, 1, none⟩ (.int .i64 a1)).heap[gb661]? = some (.cells #[.int .i64 t658, .int .i64 t659] 23 (0, 0))) := bu_ BK661
          have n1_ : Aside0 (((w21.setCell ⟨gb666, 0, none⟩ (.int .i64 a0)).setCell ⟨gb666, 1, none⟩ (.int .i64 a1)).heap[gb665]? = some (.cells #[.int .i64 t662, .int .i64 t663] 23 (0, 0))) := bu_ BK665
          have n2_ : Aside0 (((w21.setCell ⟨gb666, 0, none⟩ (.int .i64 a0)).setCell ⟨gb666, 1, none⟩ (.int .i64 a1)).heap[gb666]? = some (.cells #[.int .i64 a0, .int .i64 a1] 23 (0, 0))) := bq_ BK666
          have n3_ : Aside0 (Below w.heap.size w ((w21.setCell ⟨gb666, 0, none⟩ (.int .i64 a0)).setCell ⟨gb666, 1, none⟩ (.int .i64 a1))) := ⟨bf HB⟩
          (try clear BK661); (try clear BK665); (try clear BK666); (try clear HB)
          generalize ((w21.setCell ⟨gb666, 0, none⟩ (.int .i64 a0)).setCell ⟨gb666, 1, none⟩ (.int .i64 a1)) = w25 at n0_ n1_ n2_ n3_ ⊢
          have BK661 := n0_
          have BK665 := n1_
          have BK666 := n2_
          have HB := n3_
          clear n0_ n1_ n2_ n3_
          replace BK661 := Aside0.mk (blk_drew BK661.out)
          replace BK665 := Aside0.mk (blk_drew BK665.out)
          replace BK666 := Aside0.mk (blk_drew BK666.out)
          replace HB := Aside0.mk (below_drew1 HB.out)
          refine start_ (n := 24) (S := fun w' => w'.cell? ⟨gb661, 0, none⟩ = some (.int .i64 t658) ∧ w'.cell? ⟨gb661, 1, none⟩ = some (.int .i64 t659) ∧ w'.cell? ⟨gb665, 0, none⟩ = some (.int .i64 t662) ∧ w'.cell? ⟨gb665, 1, none⟩ = some (.int .i64 t663) ∧ w'.cell? ⟨gb666, 0, none⟩ = some (.int .i64 a0) ∧ w'.cell? ⟨gb666, 1, none⟩ = some (.int .i64 a1)) (ds := []) (m_ 24 0) (by kernel_rfl) rfl rfl ⟨ct BK661 0, ct BK661 1, ct BK665 0, ct BK665 1, ct BK666 0, ct BK666 1⟩ (fun hHeld => ?_); refine with_tabW carrefourlaw02_FracOf.tab4 carrefourlaw02_FracOf.bits4 (fun HT_ HW_ => ?_)
          generalize w25.drew = w26 at BK661 BK665 BK666 HB hHeld ⊢
          refine pu_ 1 (some 26) (m_ 24 2) rfl rfl (ao HT_) ?_
          refine pu_ 3 (some 28) (m_ 24 10) rfl rfl (ao HT_) ?_
          refine tk_ 0 (some 25) (m_ 24 11) rfl rfl (tw HT_ HW_) hHeld ?_
          refine tk_ 2 (some 27) (m_ 24 15) rfl rfl (tw HT_ HW_) hHeld ?_
          refine one_ (i := 4) (N := some 29) (m_ 24 31) rfl rfl (one_of HT_.out (by kernel_rfl)) (by decide) (fun K hK => ?_)
          refine goes_ Tryd.func14 (by kernel_rfl) rfl #[.agg #[.int .i64 t658, .int .i64 t659], .int .i64 t660, .agg #[.int .i64 t662, .int .i64 t663], .int .i64 t664] (by rfl) rfl rfl ag ?_
          with_reducible refine (carrefourlaw02_same.calls _ _ _ _ _ _ _ _ A5.out).mono ?_
          rintro e w27 ⟨rfl, hb⟩
          refine ⟨_, rfl, ?_⟩
          replace BK661 := bb BK661 hb
          replace BK665 := bb BK665 hb
          replace BK666 := bb BK666 hb
          replace HB := bs HB hb
          (try clear hb)
          refine hK.out _ _ ⟨ct BK661 0, ct BK661 1, ct BK665 0, ct BK665 1, ct BK666 0, ct BK666 1⟩ (fun hHeld => ?_)
          clear hK K
          refine nr_ (some 29) ?_
          refine pu_ 5 (some 30) (m_ 24 63) rfl rfl (ao HT_) ?_
          refine tk_ 6 (some 31) (m_ 24 127) rfl rfl (tw HT_ HW_) hHeld ?_
          refine tk_ 8 (some 33) (m_ 24 383) rfl rfl (tw HT_ HW_) hHeld ?_
          refine one_ (i := 7) (N := some 32) (m_ 24 511) rfl rfl (one_of HT_.out (by kernel_rfl)) (by decide) (fun K hK => ?_)
          refine goes_ Tryd.func18 (by kernel_rfl) rfl #[.agg #[.int .i64 a0, .int .i64 a1]] (by rfl) rfl rfl ag ?_
          with_reducible refine (frac_Right.calls _ _ _ _ _ A7.out (by first | exact GT.out | first | exact tb GT.out HB | exact tb0 GT.out)).mono ?_
          rintro e w28 ⟨rfl, hb⟩
          refine ⟨_, rfl, ?_⟩
          replace BK661 := bb BK661 hb
          replace BK665 := bb BK665 hb
          replace BK666 := bb BK666 hb
          replace HB := bs HB hb
          (try clear hb)
          refine hK.out _ _ ⟨ct BK661 0, ct BK661 1, ct BK665 0, ct BK665 1, ct BK666 0, ct BK666 1⟩ (fun hHeld => ?_)
          clear hK K
          refine nr_ (some 32) ?_
          refine one_ (i := 9) (N := some 34) (m_ 24 1023) rfl rfl (one_of HT_.out (by kernel_rfl)) (by decide) (fun K hK => ?_)
          refine goes_ Tryd.func19 (by kernel_rfl) rfl #[.agg #[.int .i64 a0, .int .i64 a1]] (by rfl) rfl rfl ag ?_
          with_reducible refine (carrefourref02_Right.calls _ _ _ _ _ A8.out).mono ?_
          rintro e w29 ⟨rfl, hb⟩
          refine ⟨_, rfl, ?_⟩
          replace BK661 := bb BK661 hb
          replace BK665 := bb BK665 hb
          replace BK666 := bb BK666 hb
          replace HB := bs HB hb
          (try clear hb)
          refine hK.out _ _ ⟨ct BK661 0, ct BK661 1, ct BK665 0, ct BK665 1, ct BK666 0, ct BK666 1⟩ (fun hHeld => ?_)
          clear hK K
          refine nr_ (some 34) ?_
          refine pu_ 10 (some 35) (m_ 24 2047) rfl rfl (ao HT_) ?_
          refine pu_ 11 (some 36) (m_ 24 4095) rfl rfl (ao HT_) ?_
          refine pu_ 12 (some 37) (m_ 24 8191) rfl rfl (ao HT_) ?_
          refine pu_ 13 (some 38) (m_ 24 16383) rfl rfl (ao HT_) ?_
          refine pu_ 14 (some 39) (m_ 24 32767) rfl rfl (ao HT_) ?_
          refine pu_ 15 (some 40) (m_ 24 65535) rfl rfl (ao HT_) ?_
          refine tk_ 16 (some 41) (m_ 24 131071) rfl rfl (tw HT_ HW_) hHeld ?_
          refine one_ (i := 17) (N := some 42) (m_ 24 262143) rfl rfl (one_of HT_.out (by kernel_rfl)) (by decide) (fun K hK => ?_)
          refine goes_ Tryd.func18 (by kernel_rfl) rfl #[.agg #[.int .i64 t658, .int .i64 t659]] (by rfl) rfl rfl ag ?_
          with_reducible refine (frac_Right.calls _ _ _ _ _ A11.out (by first | exact GT.out | first | exact tb GT.out HB | exact tb0 GT.out)).mono ?_
          rintro e w30 ⟨rfl, hb⟩
          refine ⟨_, rfl, ?_⟩
          replace BK661 := bb BK661 hb
          replace BK665 := bb BK665 hb
          replace BK666 := bb BK666 hb
          replace HB := bs HB hb
          (try clear hb)
          refine hK.out _ _ ⟨ct BK661 0, ct BK661 1, ct BK665 0, ct BK665 1, ct BK666 0, ct BK666 1⟩ (fun hHeld => ?_)
          clear hK K
          refine nr_ (some 42) ?_
          refine pu_ 18 (some 43) (m_ 24 524287) rfl rfl (ao HT_) ?_
          refine pu_ 19 (some 44) (m_ 24 1048575) rfl rfl (ao HT_) ?_
          refine pu_ 20 (some 45) (m_ 24 2097151) rfl rfl (ao HT_) ?_
          refine one_ (i := 21) (N := some 46) (m_ 24 4194303) rfl rfl (one_of HT_.out (by kernel_rfl)) (by decide) (fun K hK => ?_)
          refine goes_ Tryd.func15 (by kernel_rfl) rfl #[] (by rfl) rfl rfl ag ?_
          with_reducible refine (carrefourlaw02_awake.calls _ _ _ A13.out (by first | exact GT.out | first | exact tb GT.out HB | exact tb0 GT.out)).mono ?_
          rintro e w31 ⟨rfl, hb⟩
          refine ⟨_, rfl, ?_⟩
          replace BK661 := bb BK661 hb
          replace BK665 := bb BK665 hb
          replace BK666 := bb BK666 hb
          replace HB := bs HB hb
          (try clear hb)
          refine hK.out _ _ ⟨ct BK661 0, ct BK661 1, ct BK665 0, ct BK665 1, ct BK666 0, ct BK666 1⟩ (fun hHeld => ?_)
          clear hK K
          refine nr_ (some 46) ?_
          refine pu_ 22 (some 47) (m_ 24 8388607) rfl rfl (ao HT_) ?_
          refine pu_ 23 (some 4) (m_ 24 16777215) rfl rfl (ao HT_) ?_
          refine done_ (done_of HT_.out (by kernel_rfl)) ?_
          try go_wp2
          go_ret
          exact ⟨by first | rfl | (simp [errW_none, errW_some] <;> rfl) | (simp [*, errW_none, errW_some] <;> rfl), bf HB⟩
        · replace c12 := Bool.eq_false_iff.mpr c12
          subst c12
          have H1 : (some false) = some r := by rw [if_neg (show ¬ (false = true) by decide)] at H; exact H
          clear H
          have H := H1
          clear H1
          obtain rfl := Option.some.inj H
          go_enter Tryd.func4, Tryd.ntmps4
          try go_wp2_with (first | ((with_reducible refine gc 16 rfl ?_); refine gl_ (some 13) rfl rfl Tryd.func16 ((frac_Of.calls _ _ _ _ _ _ _ A3.out ?hT).mono ?_) ag; (case hT => first | exact tb GT.out HB | exact tb0 GT.out); rintro e w32 ⟨rfl, hb⟩; refine ⟨_, rfl, ?_⟩; replace HB := bs HB hb; (try clear hb)) | ((with_reducible refine gd 5 rfl ?_); refine bx_ 5 23 #[.int .i64 0, .int .i64 0] rfl rfl ?_; intro gb661 hg w33 BK661 hb; have GE661 := bz HB hg; replace HB := bs HB hb; clear hb hg; have hcz34 := k2 BK661) | ((with_reducible refine gc 17 rfl ?_); refine gl_ (some 19) rfl rfl Tryd.func17 ((carrefourref02_Of.calls _ _ _ _ _ _ _ A4.out).mono ?_) ag; rintro e w35 ⟨rfl, hb⟩; refine ⟨_, rfl, ?_⟩; replace BK661 := bp_ #[.int .i64 t658, .int .i64 t659] BK661 hb; replace HB := bs HB hb; (try clear hb)) | ((with_reducible refine gd 7 rfl ?_); refine bx_ 7 23 #[.int .i64 0, .int .i64 0] rfl rfl ?_; intro gb665 hg w36 BK665 hb; have GE665 := bz HB hg; have ⟨NB661_665, NB665_661⟩ := nb BK661 hg; replace BK661 := bb BK661 hb; replace HB := bs HB hb; clear hb hg; have hnb37 := nn NB665_661; have hcz38 := k2 BK665) | ((with_reducible refine gd 9 rfl ?_); refine bx_ 9 23 #[.int .i64 0, .int .i64 0] rfl rfl ?_; intro gb666 hg w39 BK666 hb; have GE666 := bz HB hg; have ⟨NB661_666, NB666_661⟩ := nb BK661 hg; have NB665_666 := Aside0.mk ((by rw [hg]; exact Nat.ne_of_lt (blk_lt (g := gb665) (o := .cells #[.int .i64 t662, .int .i64 t663] 23 (0, 0)) (br_ BK665)) : gb665 ≠ gb666)); have NB666_665 := Aside0.mk ((by rw [hg]; exact Nat.ne_of_gt (blk_lt (g := gb665) (o := .cells #[.int .i64 t662, .int .i64 t663] 23 (0, 0)) (br_ BK665)) : gb666 ≠ gb665)); replace BK661 := bb BK661 hb; replace BK665 := bp_ #[.int .i64 t662, .int .i64 t663] BK665 hb; replace HB := bs HB hb; clear hb hg; have hnb40 := nn NB666_661; have hnb41 := nn NB666_665; have hcz42 := k2 BK666))
          have n0_ : Aside0 (((w39.setCell ⟨gb666, 0, none⟩ (.int .i64 a0)).setCell ⟨gb666, 1, none⟩ (.int .i64 a1)).heap[gb661]? = some (.cells #[.int .i64 t658, .int .i64 t659] 23 (0, 0))) := bu_ BK661
          have n1_ : Aside0 (((w39.setCell ⟨gb666, 0, none⟩ (.int .i64 a0)).setCell ⟨gb666, 1, none⟩ (.int .i64 a1)).heap[gb665]? = some (.cells #[.int .i64 t662, .int .i64 t663] 23 (0, 0))) := bu_ BK665
          have n2_ : Aside0 (((w39.setCell ⟨gb666, 0, none⟩ (.int .i64 a0)).setCell ⟨gb666, 1, none⟩ (.int .i64 a1)).heap[gb666]? = some (.cells #[.int .i64 a0, .int .i64 a1] 23 (0, 0))) := bq_ BK666
          have n3_ : Aside0 (Below w.heap.size w ((w39.setCell ⟨gb666, 0, none⟩ (.int .i64 a0)).setCell ⟨gb666, 1, none⟩ (.int .i64 a1))) := ⟨bf HB⟩
          (try clear BK661); (try clear BK665); (try clear BK666); (try clear HB)
          generalize ((w39.setCell ⟨gb666, 0, none⟩ (.int .i64 a0)).setCell ⟨gb666, 1, none⟩ (.int .i64 a1)) = w43 at n0_ n1_ n2_ n3_ ⊢
          have BK661 := n0_
          have BK665 := n1_
          have BK666 := n2_
          have HB := n3_
          clear n0_ n1_ n2_ n3_
          replace BK661 := Aside0.mk (blk_drew BK661.out)
          replace BK665 := Aside0.mk (blk_drew BK665.out)
          replace BK666 := Aside0.mk (blk_drew BK666.out)
          replace HB := Aside0.mk (below_drew1 HB.out)
          refine start_ (n := 24) (S := fun w' => w'.cell? ⟨gb661, 0, none⟩ = some (.int .i64 t658) ∧ w'.cell? ⟨gb661, 1, none⟩ = some (.int .i64 t659) ∧ w'.cell? ⟨gb665, 0, none⟩ = some (.int .i64 t662) ∧ w'.cell? ⟨gb665, 1, none⟩ = some (.int .i64 t663) ∧ w'.cell? ⟨gb666, 0, none⟩ = some (.int .i64 a0) ∧ w'.cell? ⟨gb666, 1, none⟩ = some (.int .i64 a1)) (ds := []) (m_ 24 0) (by kernel_rfl) rfl rfl ⟨ct BK661 0, ct BK661 1, ct BK665 0, ct BK665 1, ct BK666 0, ct BK666 1⟩ (fun hHeld => ?_); refine with_tabW carrefourlaw02_FracOf.tab4 carrefourlaw02_FracOf.bits4 (fun HT_ HW_ => ?_)
          generalize w43.drew = w44 at BK661 BK665 BK666 HB hHeld ⊢
          refine pu_ 1 (some 26) (m_ 24 2) rfl rfl (ao HT_) ?_
          refine pu_ 3 (some 28) (m_ 24 10) rfl rfl (ao HT_) ?_
          refine tk_ 0 (some 25) (m_ 24 11) rfl rfl (tw HT_ HW_) hHeld ?_
          refine tk_ 2 (some 27) (m_ 24 15) rfl rfl (tw HT_ HW_) hHeld ?_
          refine one_ (i := 4) (N := some 29) (m_ 24 31) rfl rfl (one_of HT_.out (by kernel_rfl)) (by decide) (fun K hK => ?_)
          refine goes_ Tryd.func14 (by kernel_rfl) rfl #[.agg #[.int .i64 t658, .int .i64 t659], .int .i64 t660, .agg #[.int .i64 t662, .int .i64 t663], .int .i64 t664] (by rfl) rfl rfl ag ?_
          with_reducible refine (carrefourlaw02_same.calls _ _ _ _ _ _ _ _ A5.out).mono ?_
          rintro e w45 ⟨rfl, hb⟩
          refine ⟨_, rfl, ?_⟩
          replace BK661 := bb BK661 hb
          replace BK665 := bb BK665 hb
          replace BK666 := bb BK666 hb
          replace HB := bs HB hb
          (try clear hb)
          refine hK.out _ _ ⟨ct BK661 0, ct BK661 1, ct BK665 0, ct BK665 1, ct BK666 0, ct BK666 1⟩ (fun hHeld => ?_)
          clear hK K
          refine nr_ (some 29) ?_
          refine pu_ 5 (some 30) (m_ 24 63) rfl rfl (ao HT_) ?_
          refine tk_ 6 (some 31) (m_ 24 127) rfl rfl (tw HT_ HW_) hHeld ?_
          refine tk_ 8 (some 33) (m_ 24 383) rfl rfl (tw HT_ HW_) hHeld ?_
          refine one_ (i := 7) (N := some 32) (m_ 24 511) rfl rfl (one_of HT_.out (by kernel_rfl)) (by decide) (fun K hK => ?_)
          refine goes_ Tryd.func18 (by kernel_rfl) rfl #[.agg #[.int .i64 a0, .int .i64 a1]] (by rfl) rfl rfl ag ?_
          with_reducible refine (frac_Right.calls _ _ _ _ _ A7.out (by first | exact GT.out | first | exact tb GT.out HB | exact tb0 GT.out)).mono ?_
          rintro e w46 ⟨rfl, hb⟩
          refine ⟨_, rfl, ?_⟩
          replace BK661 := bb BK661 hb
          replace BK665 := bb BK665 hb
          replace BK666 := bb BK666 hb
          replace HB := bs HB hb
          (try clear hb)
          refine hK.out _ _ ⟨ct BK661 0, ct BK661 1, ct BK665 0, ct BK665 1, ct BK666 0, ct BK666 1⟩ (fun hHeld => ?_)
          clear hK K
          refine nr_ (some 32) ?_
          refine one_ (i := 9) (N := some 34) (m_ 24 1023) rfl rfl (one_of HT_.out (by kernel_rfl)) (by decide) (fun K hK => ?_)
          refine goes_ Tryd.func19 (by kernel_rfl) rfl #[.agg #[.int .i64 a0, .int .i64 a1]] (by rfl) rfl rfl ag ?_
          with_reducible refine (carrefourref02_Right.calls _ _ _ _ _ A8.out).mono ?_
          rintro e w47 ⟨rfl, hb⟩
          refine ⟨_, rfl, ?_⟩
          replace BK661 := bb BK661 hb
          replace BK665 := bb BK665 hb
          replace BK666 := bb BK666 hb
          replace HB := bs HB hb
          (try clear hb)
          refine hK.out _ _ ⟨ct BK661 0, ct BK661 1, ct BK665 0, ct BK665 1, ct BK666 0, ct BK666 1⟩ (fun hHeld => ?_)
          clear hK K
          refine nr_ (some 34) ?_
          refine pu_ 10 (some 35) (m_ 24 2047) rfl rfl (ao HT_) ?_
          refine pu_ 11 (some 36) (m_ 24 4095) rfl rfl (ao HT_) ?_
          refine pu_ 12 (some 37) (m_ 24 8191) rfl rfl (ao HT_) ?_
          refine pu_ 13 (some 38) (m_ 24 16383) rfl rfl (ao HT_) ?_
          refine pu_ 14 (some 39) (m_ 24 32767) rfl rfl (ao HT_) ?_
          refine pu_ 15 (some 40) (m_ 24 65535) rfl rfl (ao HT_) ?_
          refine tk_ 16 (some 41) (m_ 24 131071) rfl rfl (tw HT_ HW_) hHeld ?_
          refine one_ (i := 17) (N := some 42) (m_ 24 262143) rfl rfl (one_of HT_.out (by kernel_rfl)) (by decide) (fun K hK => ?_)
          refine goes_ Tryd.func18 (by kernel_rfl) rfl #[.agg #[.int .i64 t658, .int .i64 t659]] (by rfl) rfl rfl ag ?_
          with_reducible refine (frac_Right.calls _ _ _ _ _ A11.out (by first | exact GT.out | first | exact tb GT.out HB | exact tb0 GT.out)).mono ?_
          rintro e w48 ⟨rfl, hb⟩
          refine ⟨_, rfl, ?_⟩
          replace BK661 := bb BK661 hb
          replace BK665 := bb BK665 hb
          replace BK666 := bb BK666 hb
          replace HB := bs HB hb
          (try clear hb)
          refine hK.out _ _ ⟨ct BK661 0, ct BK661 1, ct BK665 0, ct BK665 1, ct BK666 0, ct BK666 1⟩ (fun hHeld => ?_)
          clear hK K
          refine nr_ (some 42) ?_
          refine pu_ 18 (some 43) (m_ 24 524287) rfl rfl (ao HT_) ?_
          refine pu_ 19 (some 44) (m_ 24 1048575) rfl rfl (ao HT_) ?_
          refine pu_ 20 (some 45) (m_ 24 2097151) rfl rfl (ao HT_) ?_
          refine pv_ 21 (some 46) (m_ 24 4194303) rfl rfl (ao HT_) ?_
          refine pu_ 22 (some 47) (m_ 24 8388607) rfl rfl (ao HT_) ?_
          refine pu_ 23 (some 4) (m_ 24 16777215) rfl rfl (ao HT_) ?_
          refine done_ (done_of HT_.out (by kernel_rfl)) ?_
          try go_wp2
          go_ret
          exact ⟨by first | rfl | (simp [errW_none, errW_some] <;> rfl) | (simp [*, errW_none, errW_some] <;> rfl), bf HB⟩
      · rw [if_neg c10] at H
        have c10b0 : (t660 == 0) = false := beq_eq_false_iff_ne.mpr c10
        have c10b1 : (t660 != 0) = true := bne_iff_ne.mpr c10
        replace H := bi_ H; obtain ⟨t672, A49, H⟩ := H
        (try dsimp only at H)
        obtain rfl := Option.some.inj H
        go_enter Tryd.func4, Tryd.ntmps4
        try go_wp2_with (first | ((with_reducible refine gc 16 rfl ?_); refine gl_ (some 13) rfl rfl Tryd.func16 ((frac_Of.calls _ _ _ _ _ _ _ A3.out ?hT).mono ?_) ag; (case hT => first | exact tb GT.out HB | exact tb0 GT.out); rintro e w50 ⟨rfl, hb⟩; refine ⟨_, rfl, ?_⟩; replace HB := bs HB hb; (try clear hb)) | ((with_reducible refine gd 5 rfl ?_); refine bx_ 5 23 #[.int .i64 0, .int .i64 0] rfl rfl ?_; intro gb661 hg w51 BK661 hb; have GE661 := bz HB hg; replace HB := bs HB hb; clear hb hg; have hcz52 := k2 BK661) | ((with_reducible refine gc 17 rfl ?_); refine gl_ (some 19) rfl rfl Tryd.func17 ((carrefourref02_Of.calls _ _ _ _ _ _ _ A4.out).mono ?_) ag; rintro e w53 ⟨rfl, hb⟩; refine ⟨_, rfl, ?_⟩; replace BK661 := bp_ #[.int .i64 t658, .int .i64 t659] BK661 hb; replace HB := bs HB hb; (try clear hb)) | ((with_reducible refine gd 7 rfl ?_); refine bx_ 7 23 #[.int .i64 0, .int .i64 0] rfl rfl ?_; intro gb665 hg w54 BK665 hb; have GE665 := bz HB hg; have ⟨NB661_665, NB665_661⟩ := nb BK661 hg; replace BK661 := bb BK661 hb; replace HB := bs HB hb; clear hb hg; have hnb55 := nn NB665_661; have hcz56 := k2 BK665) | ((with_reducible refine gd 9 rfl ?_); refine bx_ 9 23 #[.int .i64 0, .int .i64 0] rfl rfl ?_; intro gb666 hg w57 BK666 hb; have GE666 := bz HB hg; have ⟨NB661_666, NB666_661⟩ := nb BK661 hg; have NB665_666 := Aside0.mk ((by rw [hg]; exact Nat.ne_of_lt (blk_lt (g := gb665) (o := .cells #[.int .i64 t662, .int .i64 t663] 23 (0, 0)) (br_ BK665)) : gb665 ≠ gb666)); have NB666_665 := Aside0.mk ((by rw [hg]; exact Nat.ne_of_gt (blk_lt (g := gb665) (o := .cells #[.int .i64 t662, .int .i64 t663] 23 (0, 0)) (br_ BK665)) : gb666 ≠ gb665)); replace BK661 := bb BK661 hb; replace BK665 := bp_ #[.int .i64 t662, .int .i64 t663] BK665 hb; replace HB := bs HB hb; clear hb hg; have hnb58 := nn NB666_661; have hnb59 := nn NB666_665; have hcz60 := k2 BK666))
        have n0_ : Aside0 (((w57.setCell ⟨gb666, 0, none⟩ (.int .i64 a0)).setCell ⟨gb666, 1, none⟩ (.int .i64 a1)).heap[gb661]? = some (.cells #[.int .i64 t658, .int .i64 t659] 23 (0, 0))) := bu_ BK661
        have n1_ : Aside0 (((w57.setCell ⟨gb666, 0, none⟩ (.int .i64 a0)).setCell ⟨gb666, 1, none⟩ (.int .i64 a1)).heap[gb665]? = some (.cells #[.int .i64 t662, .int .i64 t663] 23 (0, 0))) := bu_ BK665
        have n2_ : Aside0 (((w57.setCell ⟨gb666, 0, none⟩ (.int .i64 a0)).setCell ⟨gb666, 1, none⟩ (.int .i64 a1)).heap[gb666]? = some (.cells #[.int .i64 a0, .int .i64 a1] 23 (0, 0))) := bq_ BK666
        have n3_ : Aside0 (Below w.heap.size w ((w57.setCell ⟨gb666, 0, none⟩ (.int .i64 a0)).setCell ⟨gb666, 1, none⟩ (.int .i64 a1))) := ⟨bf HB⟩
        (try clear BK661); (try clear BK665); (try clear BK666); (try clear HB)
        generalize ((w57.setCell ⟨gb666, 0, none⟩ (.int .i64 a0)).setCell ⟨gb666, 1, none⟩ (.int .i64 a1)) = w61 at n0_ n1_ n2_ n3_ ⊢
        have BK661 := n0_
        have BK665 := n1_
        have BK666 := n2_
        have HB := n3_
        clear n0_ n1_ n2_ n3_
        replace BK661 := Aside0.mk (blk_drew BK661.out)
        replace BK665 := Aside0.mk (blk_drew BK665.out)
        replace BK666 := Aside0.mk (blk_drew BK666.out)
        replace HB := Aside0.mk (below_drew1 HB.out)
        refine start_ (n := 24) (S := fun w' => w'.cell? ⟨gb661, 0, none⟩ = some (.int .i64 t658) ∧ w'.cell? ⟨gb661, 1, none⟩ = some (.int .i64 t659) ∧ w'.cell? ⟨gb665, 0, none⟩ = some (.int .i64 t662) ∧ w'.cell? ⟨gb665, 1, none⟩ = some (.int .i64 t663) ∧ w'.cell? ⟨gb666, 0, none⟩ = some (.int .i64 a0) ∧ w'.cell? ⟨gb666, 1, none⟩ = some (.int .i64 a1)) (ds := []) (m_ 24 0) (by kernel_rfl) rfl rfl ⟨ct BK661 0, ct BK661 1, ct BK665 0, ct BK665 1, ct BK666 0, ct BK666 1⟩ (fun hHeld => ?_); refine with_tabW carrefourlaw02_FracOf.tab4 carrefourlaw02_FracOf.bits4 (fun HT_ HW_ => ?_)
        generalize w61.drew = w62 at BK661 BK665 BK666 HB hHeld ⊢
        refine pu_ 1 (some 26) (m_ 24 2) rfl rfl (ao HT_) ?_
        refine pu_ 3 (some 28) (m_ 24 10) rfl rfl (ao HT_) ?_
        refine tk_ 0 (some 25) (m_ 24 11) rfl rfl (tw HT_ HW_) hHeld ?_
        refine tk_ 2 (some 27) (m_ 24 15) rfl rfl (tw HT_ HW_) hHeld ?_
        refine one_ (i := 4) (N := some 29) (m_ 24 31) rfl rfl (one_of HT_.out (by kernel_rfl)) (by decide) (fun K hK => ?_)
        refine goes_ Tryd.func14 (by kernel_rfl) rfl #[.agg #[.int .i64 t658, .int .i64 t659], .int .i64 t660, .agg #[.int .i64 t662, .int .i64 t663], .int .i64 t664] (by rfl) rfl rfl ag ?_
        with_reducible refine (carrefourlaw02_same.calls _ _ _ _ _ _ _ _ A5.out).mono ?_
        rintro e w63 ⟨rfl, hb⟩
        refine ⟨_, rfl, ?_⟩
        replace BK661 := bb BK661 hb
        replace BK665 := bb BK665 hb
        replace BK666 := bb BK666 hb
        replace HB := bs HB hb
        (try clear hb)
        refine hK.out _ _ ⟨ct BK661 0, ct BK661 1, ct BK665 0, ct BK665 1, ct BK666 0, ct BK666 1⟩ (fun hHeld => ?_)
        clear hK K
        refine nr_ (some 29) ?_
        refine pu_ 5 (some 30) (m_ 24 63) rfl rfl (ao HT_) ?_
        refine tk_ 6 (some 31) (m_ 24 127) rfl rfl (tw HT_ HW_) hHeld ?_
        refine tk_ 8 (some 33) (m_ 24 383) rfl rfl (tw HT_ HW_) hHeld ?_
        refine one_ (i := 7) (N := some 32) (m_ 24 511) rfl rfl (one_of HT_.out (by kernel_rfl)) (by decide) (fun K hK => ?_)
        refine goes_ Tryd.func18 (by kernel_rfl) rfl #[.agg #[.int .i64 a0, .int .i64 a1]] (by rfl) rfl rfl ag ?_
        with_reducible refine (frac_Right.calls _ _ _ _ _ A7.out (by first | exact GT.out | first | exact tb GT.out HB | exact tb0 GT.out)).mono ?_
        rintro e w64 ⟨rfl, hb⟩
        refine ⟨_, rfl, ?_⟩
        replace BK661 := bb BK661 hb
        replace BK665 := bb BK665 hb
        replace BK666 := bb BK666 hb
        replace HB := bs HB hb
        (try clear hb)
        refine hK.out _ _ ⟨ct BK661 0, ct BK661 1, ct BK665 0, ct BK665 1, ct BK666 0, ct BK666 1⟩ (fun hHeld => ?_)
        clear hK K
        refine nr_ (some 32) ?_
        refine one_ (i := 9) (N := some 34) (m_ 24 1023) rfl rfl (one_of HT_.out (by kernel_rfl)) (by decide) (fun K hK => ?_)
        refine goes_ Tryd.func19 (by kernel_rfl) rfl #[.agg #[.int .i64 a0, .int .i64 a1]] (by rfl) rfl rfl ag ?_
        with_reducible refine (carrefourref02_Right.calls _ _ _ _ _ A8.out).mono ?_
        rintro e w65 ⟨rfl, hb⟩
        refine ⟨_, rfl, ?_⟩
        replace BK661 := bb BK661 hb
        replace BK665 := bb BK665 hb
        replace BK666 := bb BK666 hb
        replace HB := bs HB hb
        (try clear hb)
        refine hK.out _ _ ⟨ct BK661 0, ct BK661 1, ct BK665 0, ct BK665 1, ct BK666 0, ct BK666 1⟩ (fun hHeld => ?_)
        clear hK K
        refine nr_ (some 34) ?_
        refine pu_ 10 (some 35) (m_ 24 2047) rfl rfl (ao HT_) ?_
        refine pu_ 11 (some 36) (m_ 24 4095) rfl rfl (ao HT_) ?_
        refine pu_ 12 (some 37) (m_ 24 8191) rfl rfl (ao HT_) ?_
        refine pu_ 13 (some 38) (m_ 24 16383) rfl rfl (ao HT_) ?_
        refine pu_ 14 (some 39) (m_ 24 32767) rfl rfl (ao HT_) ?_
        refine pu_ 15 (some 40) (m_ 24 65535) rfl rfl (ao HT_) ?_
        refine pv_ 16 (some 41) (m_ 24 131071) rfl rfl (ao HT_) ?_
        refine pv_ 17 (some 42) (m_ 24 262143) rfl rfl (ao HT_) ?_
        refine pu_ 18 (some 43) (m_ 24 524287) rfl rfl (ao HT_) ?_
        refine pu_ 19 (some 44) (m_ 24 1048575) rfl rfl (ao HT_) ?_
        refine pu_ 20 (some 45) (m_ 24 2097151) rfl rfl (ao HT_) ?_
        refine one_ (i := 21) (N := some 46) (m_ 24 4194303) rfl rfl (one_of HT_.out (by kernel_rfl)) (by decide) (fun K hK => ?_)
        refine goes_ Tryd.func15 (by kernel_rfl) rfl #[] (by rfl) rfl rfl ag ?_
        with_reducible refine (carrefourlaw02_awake.calls _ _ _ A49.out (by first | exact GT.out | first | exact tb GT.out HB | exact tb0 GT.out)).mono ?_
        rintro e w66 ⟨rfl, hb⟩
        refine ⟨_, rfl, ?_⟩
        replace BK661 := bb BK661 hb
        replace BK665 := bb BK665 hb
        replace BK666 := bb BK666 hb
        replace HB := bs HB hb
        (try clear hb)
        refine hK.out _ _ ⟨ct BK661 0, ct BK661 1, ct BK665 0, ct BK665 1, ct BK666 0, ct BK666 1⟩ (fun hHeld => ?_)
        clear hK K
        refine nr_ (some 46) ?_
        refine pu_ 22 (some 47) (m_ 24 8388607) rfl rfl (ao HT_) ?_
        refine pu_ 23 (some 4) (m_ 24 16777215) rfl rfl (ao HT_) ?_
        refine done_ (done_of HT_.out (by kernel_rfl)) ?_
        try go_wp2
        go_ret
        exact ⟨by first | rfl | (simp [errW_none, errW_some] <;> rfl) | (simp [*, errW_none, errW_some] <;> rfl), bf HB⟩
    · rw [if_neg c9] at H
      have c9b0 : (t668 == t669) = false := by simpa using c9
      (try (have c9b1 : decide (t668 = t669) = false := by simpa using c9))
      (try (have c9b2 : (t668 == t669) = false := by simpa using c9))
      (try (have c9b3 : ¬ (t668 = t669) := by simpa using c9))
      clear c9
      obtain rfl := Option.some.inj H
      go_enter Tryd.func4, Tryd.ntmps4
      try go_wp2_with (first | ((with_reducible refine gc 16 rfl ?_); refine gl_ (some 13) rfl rfl Tryd.func16 ((frac_Of.calls _ _ _ _ _ _ _ A3.out ?hT).mono ?_) ag; (case hT => first | exact tb GT.out HB | exact tb0 GT.out); rintro e w67 ⟨rfl, hb⟩; refine ⟨_, rfl, ?_⟩; replace HB := bs HB hb; (try clear hb)) | ((with_reducible refine gd 5 rfl ?_); refine bx_ 5 23 #[.int .i64 0, .int .i64 0] rfl rfl ?_; intro gb661 hg w68 BK661 hb; have GE661 := bz HB hg; replace HB := bs HB hb; clear hb hg; have hcz69 := k2 BK661) | ((with_reducible refine gc 17 rfl ?_); refine gl_ (some 19) rfl rfl Tryd.func17 ((carrefourref02_Of.calls _ _ _ _ _ _ _ A4.out).mono ?_) ag; rintro e w70 ⟨rfl, hb⟩; refine ⟨_, rfl, ?_⟩; replace BK661 := bp_ #[.int .i64 t658, .int .i64 t659] BK661 hb; replace HB := bs HB hb; (try clear hb)) | ((with_reducible refine gd 7 rfl ?_); refine bx_ 7 23 #[.int .i64 0, .int .i64 0] rfl rfl ?_; intro gb665 hg w71 BK665 hb; have GE665 := bz HB hg; have ⟨NB661_665, NB665_661⟩ := nb BK661 hg; replace BK661 := bb BK661 hb; replace HB := bs HB hb; clear hb hg; have hnb72 := nn NB665_661; have hcz73 := k2 BK665) | ((with_reducible refine gd 9 rfl ?_); refine bx_ 9 23 #[.int .i64 0, .int .i64 0] rfl rfl ?_; intro gb666 hg w74 BK666 hb; have GE666 := bz HB hg; have ⟨NB661_666, NB666_661⟩ := nb BK661 hg; have NB665_666 := Aside0.mk ((by rw [hg]; exact Nat.ne_of_lt (blk_lt (g := gb665) (o := .cells #[.int .i64 t662, .int .i64 t663] 23 (0, 0)) (br_ BK665)) : gb665 ≠ gb666)); have NB666_665 := Aside0.mk ((by rw [hg]; exact Nat.ne_of_gt (blk_lt (g := gb665) (o := .cells #[.int .i64 t662, .int .i64 t663] 23 (0, 0)) (br_ BK665)) : gb666 ≠ gb665)); replace BK661 := bb BK661 hb; replace BK665 := bp_ #[.int .i64 t662, .int .i64 t663] BK665 hb; replace HB := bs HB hb; clear hb hg; have hnb75 := nn NB666_661; have hnb76 := nn NB666_665; have hcz77 := k2 BK666))
      have n0_ : Aside0 (((w74.setCell ⟨gb666, 0, none⟩ (.int .i64 a0)).setCell ⟨gb666, 1, none⟩ (.int .i64 a1)).heap[gb661]? = some (.cells #[.int .i64 t658, .int .i64 t659] 23 (0, 0))) := bu_ BK661
      have n1_ : Aside0 (((w74.setCell ⟨gb666, 0, none⟩ (.int .i64 a0)).setCell ⟨gb666, 1, none⟩ (.int .i64 a1)).heap[gb665]? = some (.cells #[.int .i64 t662, .int .i64 t663] 23 (0, 0))) := bu_ BK665
      have n2_ : Aside0 (((w74.setCell ⟨gb666, 0, none⟩ (.int .i64 a0)).setCell ⟨gb666, 1, none⟩ (.int .i64 a1)).heap[gb666]? = some (.cells #[.int .i64 a0, .int .i64 a1] 23 (0, 0))) := bq_ BK666
      have n3_ : Aside0 (Below w.heap.size w ((w74.setCell ⟨gb666, 0, none⟩ (.int .i64 a0)).setCell ⟨gb666, 1, none⟩ (.int .i64 a1))) := ⟨bf HB⟩
      (try clear BK661); (try clear BK665); (try clear BK666); (try clear HB)
      generalize ((w74.setCell ⟨gb666, 0, none⟩ (.int .i64 a0)).setCell ⟨gb666, 1, none⟩ (.int .i64 a1)) = w78 at n0_ n1_ n2_ n3_ ⊢
      have BK661 := n0_
      have BK665 := n1_
      have BK666 := n2_
      have HB := n3_
      clear n0_ n1_ n2_ n3_
      replace BK661 := Aside0.mk (blk_drew BK661.out)
      replace BK665 := Aside0.mk (blk_drew BK665.out)
      replace BK666 := Aside0.mk (blk_drew BK666.out)
      replace HB := Aside0.mk (below_drew1 HB.out)
      refine start_ (n := 24) (S := fun w' => w'.cell? ⟨gb661, 0, none⟩ = some (.int .i64 t658) ∧ w'.cell? ⟨gb661, 1, none⟩ = some (.int .i64 t659) ∧ w'.cell? ⟨gb665, 0, none⟩ = some (.int .i64 t662) ∧ w'.cell? ⟨gb665, 1, none⟩ = some (.int .i64 t663) ∧ w'.cell? ⟨gb666, 0, none⟩ = some (.int .i64 a0) ∧ w'.cell? ⟨gb666, 1, none⟩ = some (.int .i64 a1)) (ds := []) (m_ 24 0) (by kernel_rfl) rfl rfl ⟨ct BK661 0, ct BK661 1, ct BK665 0, ct BK665 1, ct BK666 0, ct BK666 1⟩ (fun hHeld => ?_); refine with_tabW carrefourlaw02_FracOf.tab4 carrefourlaw02_FracOf.bits4 (fun HT_ HW_ => ?_)
      generalize w78.drew = w79 at BK661 BK665 BK666 HB hHeld ⊢
      refine pu_ 1 (some 26) (m_ 24 2) rfl rfl (ao HT_) ?_
      refine pu_ 3 (some 28) (m_ 24 10) rfl rfl (ao HT_) ?_
      refine tk_ 0 (some 25) (m_ 24 11) rfl rfl (tw HT_ HW_) hHeld ?_
      refine tk_ 2 (some 27) (m_ 24 15) rfl rfl (tw HT_ HW_) hHeld ?_
      refine one_ (i := 4) (N := some 29) (m_ 24 31) rfl rfl (one_of HT_.out (by kernel_rfl)) (by decide) (fun K hK => ?_)
      refine goes_ Tryd.func14 (by kernel_rfl) rfl #[.agg #[.int .i64 t658, .int .i64 t659], .int .i64 t660, .agg #[.int .i64 t662, .int .i64 t663], .int .i64 t664] (by rfl) rfl rfl ag ?_
      with_reducible refine (carrefourlaw02_same.calls _ _ _ _ _ _ _ _ A5.out).mono ?_
      rintro e w80 ⟨rfl, hb⟩
      refine ⟨_, rfl, ?_⟩
      replace BK661 := bb BK661 hb
      replace BK665 := bb BK665 hb
      replace BK666 := bb BK666 hb
      replace HB := bs HB hb
      (try clear hb)
      refine hK.out _ _ ⟨ct BK661 0, ct BK661 1, ct BK665 0, ct BK665 1, ct BK666 0, ct BK666 1⟩ (fun hHeld => ?_)
      clear hK K
      refine nr_ (some 29) ?_
      refine pu_ 5 (some 30) (m_ 24 63) rfl rfl (ao HT_) ?_
      refine tk_ 6 (some 31) (m_ 24 127) rfl rfl (tw HT_ HW_) hHeld ?_
      refine tk_ 8 (some 33) (m_ 24 383) rfl rfl (tw HT_ HW_) hHeld ?_
      refine one_ (i := 7) (N := some 32) (m_ 24 511) rfl rfl (one_of HT_.out (by kernel_rfl)) (by decide) (fun K hK => ?_)
      refine goes_ Tryd.func18 (by kernel_rfl) rfl #[.agg #[.int .i64 a0, .int .i64 a1]] (by rfl) rfl rfl ag ?_
      with_reducible refine (frac_Right.calls _ _ _ _ _ A7.out (by first | exact GT.out | first | exact tb GT.out HB | exact tb0 GT.out)).mono ?_
      rintro e w81 ⟨rfl, hb⟩
      refine ⟨_, rfl, ?_⟩
      replace BK661 := bb BK661 hb
      replace BK665 := bb BK665 hb
      replace BK666 := bb BK666 hb
      replace HB := bs HB hb
      (try clear hb)
      refine hK.out _ _ ⟨ct BK661 0, ct BK661 1, ct BK665 0, ct BK665 1, ct BK666 0, ct BK666 1⟩ (fun hHeld => ?_)
      clear hK K
      refine nr_ (some 32) ?_
      refine one_ (i := 9) (N := some 34) (m_ 24 1023) rfl rfl (one_of HT_.out (by kernel_rfl)) (by decide) (fun K hK => ?_)
      refine goes_ Tryd.func19 (by kernel_rfl) rfl #[.agg #[.int .i64 a0, .int .i64 a1]] (by rfl) rfl rfl ag ?_
      with_reducible refine (carrefourref02_Right.calls _ _ _ _ _ A8.out).mono ?_
      rintro e w82 ⟨rfl, hb⟩
      refine ⟨_, rfl, ?_⟩
      replace BK661 := bb BK661 hb
      replace BK665 := bb BK665 hb
      replace BK666 := bb BK666 hb
      replace HB := bs HB hb
      (try clear hb)
      refine hK.out _ _ ⟨ct BK661 0, ct BK661 1, ct BK665 0, ct BK665 1, ct BK666 0, ct BK666 1⟩ (fun hHeld => ?_)
      clear hK K
      refine nr_ (some 34) ?_
      refine pu_ 10 (some 35) (m_ 24 2047) rfl rfl (ao HT_) ?_
      refine pu_ 11 (some 36) (m_ 24 4095) rfl rfl (ao HT_) ?_
      refine pu_ 12 (some 37) (m_ 24 8191) rfl rfl (ao HT_) ?_
      refine pv_ 13 (some 38) (m_ 24 16383) rfl rfl (ao HT_) ?_
      refine pv_ 14 (some 39) (m_ 24 32767) rfl rfl (ao HT_) ?_
      refine pv_ 15 (some 40) (m_ 24 65535) rfl rfl (ao HT_) ?_
      refine pv_ 16 (some 41) (m_ 24 131071) rfl rfl (ao HT_) ?_
      refine pv_ 17 (some 42) (m_ 24 262143) rfl rfl (ao HT_) ?_
      refine pv_ 18 (some 43) (m_ 24 524287) rfl rfl (ao HT_) ?_
      refine pu_ 19 (some 44) (m_ 24 1048575) rfl rfl (ao HT_) ?_
      refine pu_ 20 (some 45) (m_ 24 2097151) rfl rfl (ao HT_) ?_
      refine pv_ 21 (some 46) (m_ 24 4194303) rfl rfl (ao HT_) ?_
      refine pu_ 22 (some 47) (m_ 24 8388607) rfl rfl (ao HT_) ?_
      refine pu_ 23 (some 4) (m_ 24 16777215) rfl rfl (ao HT_) ?_
      refine done_ (done_of HT_.out (by kernel_rfl)) ?_
      try go_wp2
      go_ret
      exact ⟨by first | rfl | (simp [errW_none, errW_some] <;> rfl) | (simp [*, errW_none, errW_some] <;> rfl), bf HB⟩
  · replace c6 := Bool.eq_false_iff.mpr c6
    subst c6
    have H1 : (some false) = some r := by rw [if_neg (show ¬ (false = true) by decide)] at H; exact H
    clear H
    have H := H1
    clear H1
    obtain rfl := Option.some.inj H
    go_enter Tryd.func4, Tryd.ntmps4
    try go_wp2_with (first | ((with_reducible refine gc 16 rfl ?_); refine gl_ (some 13) rfl rfl Tryd.func16 ((frac_Of.calls _ _ _ _ _ _ _ A3.out ?hT).mono ?_) ag; (case hT => first | exact tb GT.out HB | exact tb0 GT.out); rintro e w83 ⟨rfl, hb⟩; refine ⟨_, rfl, ?_⟩; replace HB := bs HB hb; (try clear hb)) | ((with_reducible refine gd 5 rfl ?_); refine bx_ 5 23 #[.int .i64 0, .int .i64 0] rfl rfl ?_; intro gb661 hg w84 BK661 hb; have GE661 := bz HB hg; replace HB := bs HB hb; clear hb hg; have hcz85 := k2 BK661) | ((with_reducible refine gc 17 rfl ?_); refine gl_ (some 19) rfl rfl Tryd.func17 ((carrefourref02_Of.calls _ _ _ _ _ _ _ A4.out).mono ?_) ag; rintro e w86 ⟨rfl, hb⟩; refine ⟨_, rfl, ?_⟩; replace BK661 := bp_ #[.int .i64 t658, .int .i64 t659] BK661 hb; replace HB := bs HB hb; (try clear hb)) | ((with_reducible refine gd 7 rfl ?_); refine bx_ 7 23 #[.int .i64 0, .int .i64 0] rfl rfl ?_; intro gb665 hg w87 BK665 hb; have GE665 := bz HB hg; have ⟨NB661_665, NB665_661⟩ := nb BK661 hg; replace BK661 := bb BK661 hb; replace HB := bs HB hb; clear hb hg; have hnb88 := nn NB665_661; have hcz89 := k2 BK665) | ((with_reducible refine gd 9 rfl ?_); refine bx_ 9 23 #[.int .i64 0, .int .i64 0] rfl rfl ?_; intro gb666 hg w90 BK666 hb; have GE666 := bz HB hg; have ⟨NB661_666, NB666_661⟩ := nb BK661 hg; have NB665_666 := Aside0.mk ((by rw [hg]; exact Nat.ne_of_lt (blk_lt (g := gb665) (o := .cells #[.int .i64 t662, .int .i64 t663] 23 (0, 0)) (br_ BK665)) : gb665 ≠ gb666)); have NB666_665 := Aside0.mk ((by rw [hg]; exact Nat.ne_of_gt (blk_lt (g := gb665) (o := .cells #[.int .i64 t662, .int .i64 t663] 23 (0, 0)) (br_ BK665)) : gb666 ≠ gb665)); replace BK661 := bb BK661 hb; replace BK665 := bp_ #[.int .i64 t662, .int .i64 t663] BK665 hb; replace HB := bs HB hb; clear hb hg; have hnb91 := nn NB666_661; have hnb92 := nn NB666_665; have hcz93 := k2 BK666))
    have n0_ : Aside0 (((w90.setCell ⟨gb666, 0, none⟩ (.int .i64 a0)).setCell ⟨gb666, 1, none⟩ (.int .i64 a1)).heap[gb661]? = some (.cells #[.int .i64 t658, .int .i64 t659] 23 (0, 0))) := bu_ BK661
    have n1_ : Aside0 (((w90.setCell ⟨gb666, 0, none⟩ (.int .i64 a0)).setCell ⟨gb666, 1, none⟩ (.int .i64 a1)).heap[gb665]? = some (.cells #[.int .i64 t662, .int .i64 t663] 23 (0, 0))) := bu_ BK665
    have n2_ : Aside0 (((w90.setCell ⟨gb666, 0, none⟩ (.int .i64 a0)).setCell ⟨gb666, 1, none⟩ (.int .i64 a1)).heap[gb666]? = some (.cells #[.int .i64 a0, .int .i64 a1] 23 (0, 0))) := bq_ BK666
    have n3_ : Aside0 (Below w.heap.size w ((w90.setCell ⟨gb666, 0, none⟩ (.int .i64 a0)).setCell ⟨gb666, 1, none⟩ (.int .i64 a1))) := ⟨bf HB⟩
    (try clear BK661); (try clear BK665); (try clear BK666); (try clear HB)
    generalize ((w90.setCell ⟨gb666, 0, none⟩ (.int .i64 a0)).setCell ⟨gb666, 1, none⟩ (.int .i64 a1)) = w94 at n0_ n1_ n2_ n3_ ⊢
    have BK661 := n0_
    have BK665 := n1_
    have BK666 := n2_
    have HB := n3_
    clear n0_ n1_ n2_ n3_
    replace BK661 := Aside0.mk (blk_drew BK661.out)
    replace BK665 := Aside0.mk (blk_drew BK665.out)
    replace BK666 := Aside0.mk (blk_drew BK666.out)
    replace HB := Aside0.mk (below_drew1 HB.out)
    refine start_ (n := 24) (S := fun w' => w'.cell? ⟨gb661, 0, none⟩ = some (.int .i64 t658) ∧ w'.cell? ⟨gb661, 1, none⟩ = some (.int .i64 t659) ∧ w'.cell? ⟨gb665, 0, none⟩ = some (.int .i64 t662) ∧ w'.cell? ⟨gb665, 1, none⟩ = some (.int .i64 t663)) (ds := []) (m_ 24 0) (by kernel_rfl) rfl rfl ⟨ct BK661 0, ct BK661 1, ct BK665 0, ct BK665 1⟩ (fun hHeld => ?_); refine with_tabW carrefourlaw02_FracOf.tab4 carrefourlaw02_FracOf.bits4 (fun HT_ HW_ => ?_)
    generalize w94.drew = w95 at BK661 BK665 BK666 HB hHeld ⊢
    refine pu_ 1 (some 26) (m_ 24 2) rfl rfl (ao HT_) ?_
    refine pu_ 3 (some 28) (m_ 24 10) rfl rfl (ao HT_) ?_
    refine tk_ 0 (some 25) (m_ 24 11) rfl rfl (tw HT_ HW_) hHeld ?_
    refine tk_ 2 (some 27) (m_ 24 15) rfl rfl (tw HT_ HW_) hHeld ?_
    refine one_ (i := 4) (N := some 29) (m_ 24 31) rfl rfl (one_of HT_.out (by kernel_rfl)) (by decide) (fun K hK => ?_)
    refine goes_ Tryd.func14 (by kernel_rfl) rfl #[.agg #[.int .i64 t658, .int .i64 t659], .int .i64 t660, .agg #[.int .i64 t662, .int .i64 t663], .int .i64 t664] (by rfl) rfl rfl ag ?_
    with_reducible refine (carrefourlaw02_same.calls _ _ _ _ _ _ _ _ A5.out).mono ?_
    rintro e w96 ⟨rfl, hb⟩
    refine ⟨_, rfl, ?_⟩
    replace BK661 := bb BK661 hb
    replace BK665 := bb BK665 hb
    replace BK666 := bb BK666 hb
    replace HB := bs HB hb
    (try clear hb)
    refine hK.out _ _ ⟨ct BK661 0, ct BK661 1, ct BK665 0, ct BK665 1⟩ (fun hHeld => ?_)
    clear hK K
    refine nr_ (some 29) ?_
    refine pu_ 5 (some 30) (m_ 24 63) rfl rfl (ao HT_) ?_
    refine pv_ 6 (some 31) (m_ 24 127) rfl rfl (ao HT_) ?_
    refine pv_ 7 (some 32) (m_ 24 255) rfl rfl (ao HT_) ?_
    refine pv_ 8 (some 33) (m_ 24 511) rfl rfl (ao HT_) ?_
    refine pv_ 9 (some 34) (m_ 24 1023) rfl rfl (ao HT_) ?_
    refine pv_ 10 (some 35) (m_ 24 2047) rfl rfl (ao HT_) ?_
    refine pu_ 11 (some 36) (m_ 24 4095) rfl rfl (ao HT_) ?_
    refine pu_ 12 (some 37) (m_ 24 8191) rfl rfl (ao HT_) ?_
    refine pv_ 13 (some 38) (m_ 24 16383) rfl rfl (ao HT_) ?_
    refine pv_ 14 (some 39) (m_ 24 32767) rfl rfl (ao HT_) ?_
    refine pv_ 15 (some 40) (m_ 24 65535) rfl rfl (ao HT_) ?_
    refine pv_ 16 (some 41) (m_ 24 131071) rfl rfl (ao HT_) ?_
    refine pv_ 17 (some 42) (m_ 24 262143) rfl rfl (ao HT_) ?_
    refine pv_ 18 (some 43) (m_ 24 524287) rfl rfl (ao HT_) ?_
    refine pu_ 19 (some 44) (m_ 24 1048575) rfl rfl (ao HT_) ?_
    refine pu_ 20 (some 45) (m_ 24 2097151) rfl rfl (ao HT_) ?_
    refine pv_ 21 (some 46) (m_ 24 4194303) rfl rfl (ao HT_) ?_
    refine pu_ 22 (some 47) (m_ 24 8388607) rfl rfl (ao HT_) ?_
    refine pu_ 23 (some 4) (m_ 24 16777215) rfl rfl (ao HT_) ?_
    refine done_ (done_of HT_.out (by kernel_rfl)) ?_
    try go_wp2
    go_ret
    exact ⟨by first | rfl | (simp [errW_none, errW_some] <;> rfl) | (simp [*, errW_none, errW_some] <;> rfl), bf HB⟩

/-- THE ONE PURE STATEMENT of carrefourlaw02_FracOf: yours. -/
def carrefourlaw02_FracOf.Pure : Prop := ∀ (a0 : Int) (a1 : Int), (Lit.int .i64 a0).wf = true → (Lit.int .i64 a1).wf = true → ∃ k, carrefourlaw02_FracOf.f k a0 a1 = some true
theorem carrefourlaw02_FracOf.walk (P : carrefourlaw02_FracOf.Pure) (a0 : Int) (a1 : Int) (w : World) (w0 : (Lit.int .i64 a0).wf = true) (w1 : (Lit.int .i64 a1).wf = true) (hT : TabOK w) :
    Calls Tryd.prog 4 #[.int .i64 a0, .int .i64 a1] w fun e w' => e = .returned (.bool true) ∧ Below w.heap.size w w' := by
  have GT := Aside0.mk hT
  clear hT
  obtain ⟨k, h⟩ := P a0 a1 w0 w1
  refine (carrefourlaw02_FracOf.calls k a0 a1 true w h (by first | exact GT.out | first | exact tb GT.out HB | exact tb0 GT.out)).mono ?_
  rintro e w' ⟨rfl, hd⟩
  exact ⟨rfl, hd⟩

end Go.Proofs.YtjgnaccamakpdaaDoor.X
