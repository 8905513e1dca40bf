/- Walks: each '.calls' says that the Go function comes to what its Lean function tells. Conditions: as each theorem's head says. -/
import Derived.Test.YtfhokgkpcphmlaaGreatDoorXD
import Derived.Test.YtfhokgkpcphmlaaGreatDoorX0
import Derived.Test.YtfhokgkpcphmlaaGreatDoorX10
import Derived.Test.YtfhokgkpcphmlaaGreatDoorX21
import Derived.Test.YtfhokgkpcphmlaaGreatDoorX22
namespace Go.Proofs.YtfhokgkpcphmlaaGreatDoor.X
open Go.RowKit Go.Proofs.YtfhokgkpcphmlaaGreatDoorW.PrintWords Go.Proofs.YtfhokgkpcphmlaaGreatDoorW.PrintLast Go.Proofs.YtfhokgkpcphmlaaGreatDoorW.PrintMore
attribute [local go_sem] max2_int min2_int max_two min_two max_three min_three max_four min_four   -- for this text's walks alone
set_option linter.unusedVariables false
set_option maxHeartbeats 8000000
set_option maxRecDepth 100000
set_option linter.unusedSimpArgs false

/-! ### demand_Rate: function 13 -/
def demand_Rate.T11 : Bool × List (List Nat × List Nat) := (true, [([], []), ([0], [0]), ([], []), ([1, 2], [1, 2]), ([], []), ([], []), ([5], [5]), ([4, 6, 3], [4, 6]), ([3, 7, 7], [3, 7]), ([], []), ([9, 8, 8, 0, 1, 2, 3, 4, 5, 6, 7, 8, 9], [8, 9])])
def demand_Rate.B11 : List Nat := [0, 1, 0, 7, 0, 0, 32, 127, 255, 0, 1023]
theorem demand_Rate.tab11 : rtab .any (opsOf Tryz.f13 11) = demand_Rate.T11 := by kernel_rfl
theorem demand_Rate.bits11 : waitsOk demand_Rate.T11.2 demand_Rate.B11 = true := by kernel_rfl
def demand_Rate.T21 : Bool × List (List Nat × List Nat) := (true, [([], []), ([], []), ([1], [1]), ([], []), ([2, 3], [2, 3]), ([0, 4], [0, 4]), ([5], [5]), ([], []), ([], []), ([8], [8]), ([], []), ([9, 10], [9, 10]), ([7, 11], [7, 11]), ([6, 12], [6, 12]), ([13, 0, 1, 2, 3, 4, 5, 6, 7, 8, 9, 10, 11, 12, 13], [13]), ([14, 0, 1, 2, 3, 4, 5, 6, 7, 8, 9, 10, 11, 12, 13, 14], [])])
def demand_Rate.B21 : List Nat := [0, 0, 2, 0, 14, 31, 63, 0, 0, 256, 0, 1792, 3968, 8191, 16383, 32767]
theorem demand_Rate.tab21 : rtab .any (opsOf Tryz.f13 21) = demand_Rate.T21 := by kernel_rfl
theorem demand_Rate.bits21 : waitsOk demand_Rate.T21.2 demand_Rate.B21 = true := by kernel_rfl
theorem demand_Rate.calls (k : Nat) (a0_0 : Int) (a0_1 : Int) (a1 : Int) (r1 : ByteArray) (r2 : Int) (w : World) (h : demand_Rate.f k a0_0 a0_1 a1 = some (r1, r2)) (hT : TabOK w) :
  Calls Tryz.prog 13 #[.agg #[.int .i64 a0_0, .int .i64 a0_1], .int .i64 a1] w fun e w' => e = .returned (.tuple #[.string r1, .int .i64 r2]) ∧ Below w.heap.size w w' := by
 have GT := Aside0.mk hT
 clear hT
 have hu23 := Tryz.underlying23
 have hu76 := Tryz.underlying76
 have HB := Aside0.mk (Below.refl w.heap.size w)
 have H : (if a1 < 0 then (demand_Rate.j0 k a1 true a0_0 a0_1) else (if a1 > 9 then (demand_Rate.j0 k a1 true a0_0 a0_1) else ((frac_Right.f k a0_0 a0_1).bind fun t634 => (if t634 = true then (demand_Rate.j0 k a1 (decide (a0_0 < 0)) a0_0 a0_1) else (demand_Rate.j0 k a1 true a0_0 a0_1))))) = some (r1, r2) := h
 clear h
 have HC3 := Aside0.mk H
 clear H
 go_enter Tryz.func13, Tryz.ntmps13
 go_upto_region 1 with (first | ((with_reducible refine gd 2 rfl ?_); refine bx_ 2 23 #[.int .i64 a0_0, .int .i64 a0_1] rfl rfl ?_; intro gb633 hg w4 BK633 hb; have GE633 := bz HB hg; replace HB := bs HB hb; clear hb hg))
 (try simp only [Act.put, si, s0, s1])
 go_cut [26] (fun v26 wc => ∃ (kq : Nat) (x26_2 : Bool), v26 = .bool x26_2 ∧ Aside0 (demand_Rate.j0 kq a1 x26_2 a0_0 a0_1 = some (r1, r2)) ∧ Aside0 (kq ≤ k) ∧ Aside0 (wc.heap[gb633]? = some (.cells #[.int .i64 a0_0, .int .i64 a0_1] 23 (0, 0))) ∧ Aside0 (Below w.heap.size w wc))
 case first =>
  have H := HC3.out
  clear HC3
  by_cases c5 : a1 < 0
  ·rw [if_pos c5] at H
   have c5b0 : decide (a1 < 0) = true := decide_eq_true c5
   clear c5
   (first | rw [c5b0] | (simp only [i64_w, i32_w]; rw [c5b0]) | skip)
   have H' := Aside0.mk H
   clear H
   go_wp2
   go_meet
   case rel => exact ⟨_, (true), (aq), H', ⟨by first | omega | exact Nat.le_refl _⟩, bu_ BK633, ⟨bf HB⟩⟩
  ·rw [if_neg c5] at H
   have c5b0 : decide (a1 < 0) = false := decide_eq_false c5
   clear c5
   (first | rw [c5b0] | (simp only [i64_w, i32_w]; rw [c5b0]) | skip)
   by_cases c6 : a1 > 9
   ·rw [if_pos c6] at H
    have c6b0 : decide (9 < a1) = true := decide_eq_true c6
    clear c6
    have H' := Aside0.mk H
    clear H
    go_wp2
    go_meet
    case rel => exact ⟨_, (true), (aq), H', ⟨by first | omega | exact Nat.le_refl _⟩, bu_ BK633, ⟨bf HB⟩⟩
   ·rw [if_neg c6] at H
    have c6b0 : decide (9 < a1) = false := decide_eq_false c6
    clear c6
    replace H := bi_ H; obtain ⟨t634, A7, H⟩ := H
    (try dsimp only at H)
    by_cases c8 : t634 = true
    ·subst c8
     have H1 : (demand_Rate.j0 k a1 (decide (a0_0 < 0)) a0_0 a0_1) = some (r1, r2) := by rw [if_pos rfl] at H; exact H
     clear H
     have H := H1
     clear H1
     have H' := Aside0.mk H
     clear H
     have hcz9 := X.k2 BK633
     go_wp2_with (first | (go_at_call 21; (with_reducible refine (frac_Right.calls _ _ _ _ _ A7.out (tt GT)).mono ?_); rintro e w10 ⟨rfl, hb⟩; replace BK633 := bb BK633 hb; replace HB := bs HB hb; (try clear hb); have hcz11 := X.k2 BK633))
     go_meet
     case rel => exact ⟨_, (decide (a0_0 < 0)), (aq), H', ⟨by first | omega | exact Nat.le_refl _⟩, bu_ BK633, ⟨bf HB⟩⟩
    ·replace c8 := Bool.eq_false_iff.mpr c8
     subst c8
     have H1 : (demand_Rate.j0 k a1 true a0_0 a0_1) = some (r1, r2) := by rw [if_neg (show ¬ (false = true) by decide)] at H; exact H
     clear H
     have H := H1
     clear H1
     have H' := Aside0.mk H
     clear H
     have hcz12 := X.k2 BK633
     go_wp2_with (first | (go_at_call 21; (with_reducible refine (frac_Right.calls _ _ _ _ _ A7.out (tt GT)).mono ?_); rintro e w13 ⟨rfl, hb⟩; replace BK633 := bb BK633 hb; replace HB := bs HB hb; (try clear hb)))
     go_meet
     case rel => exact ⟨_, (true), (aq), H', ⟨by first | omega | exact Nat.le_refl _⟩, bu_ BK633, ⟨bf HB⟩⟩
 case rest =>
  clear HC3
  (try clear c1); (try clear p2); (try clear c5); (try clear c5b0); (try clear c6); (try clear c6b0); (try clear c8); (try clear c13); (try clear hcz11); (try clear hcz12); (try clear hcz9)
  obtain ⟨kq, x26_2, rfl, HA, HJ2, BK633, HB⟩ := hcut
  cases kq with
  | zero => exact absurd HA.out (by simp [demand_Rate.j0])
  | succ kj2 =>
   have H := HA.out
   clear HA
   simp only [demand_Rate.j0] at H
   by_cases c14 : x26_2 = true
   ·subst c14
    have H1 : (some ((⟨#[]⟩ : ByteArray), 1)) = some (r1, r2) := by rw [if_pos rfl] at H; exact H
    clear H
    have H := H1
    clear H1
    simp only [Option.some.injEq, Prod.mk.injEq] at H
    obtain ⟨rfl, rfl⟩ := H
    go_wp2
    go_ret2
    exact ⟨ae, bf HB⟩
   ·replace c14 := Bool.eq_false_iff.mpr c14
    subst c14
    have H1 : (demand_Rate.l0 kj2 a1 1 a1 0 a0_0 a0_1) = some (r1, r2) := by rw [if_neg (show ¬ (false = true) by decide)] at H; exact H
    clear H
    have H := H1
    clear H1
    have H' := Aside0.mk H
    clear H
    go_wp2
    go_loopg [6, 28] kj2 (fun kq v6 v28 w' => ∃ (x6_2 : Int) (x28_2 : Int), v6 = .int .i64 x6_2 ∧ v28 = .int .i64 x28_2 ∧ Aside0 (demand_Rate.l0 kq a1 x6_2 a1 x28_2 a0_0 a0_1 = some (r1, r2)) ∧ Aside0 (kq ≤ kj2) ∧ Aside0 (w'.heap[gb633]? = some (.cells #[.int .i64 a0_0, .int .i64 a0_1] 23 (0, 0))) ∧ Aside0 (Below w.heap.size w w'))
    case atStart => exact ⟨(1), (0), (aq), (aq), H', ⟨Nat.le_refl _⟩, bu_ BK633, ⟨bf HB⟩⟩
    case round =>
     clear H'
     (try clear c1); (try clear p2); (try clear c5); (try clear c5b0); (try clear c6); (try clear c6b0); (try clear c8); (try clear c13); (try clear c14); (try clear hcz11); (try clear hcz12); (try clear hcz9); (try clear p2)
     obtain ⟨x6_2, x28_2, rfl, rfl, HA, HK2, BK633, HB⟩ := hrel
     cases gk with
     | zero => exact absurd HA.out (by simp [demand_Rate.l0])
     | succ k2 =>
      have H := HA.out
      clear HA
      simp only [demand_Rate.l0] at H
      by_cases c15 : x28_2 < a1
      ·rw [if_pos c15] at H
       have c15b0 : decide (x28_2 < a1) = true := decide_eq_true c15
       clear c15
       have H' := Aside0.mk H
       clear H
       go_wp2
       go_roundg k2
       case measure => have := HJ2.out; have := HK2.out; omega
       case rel => exact ⟨(wrap64 (x6_2 * 10)), (wrap64 (x28_2 + 1)), (aq), (aq), H', ⟨by have := HJ2.out; have := HK2.out; omega⟩, bu_ BK633, ⟨bf HB⟩⟩
      ·rw [if_neg c15] at H
       have c15b0 : decide (x28_2 < a1) = false := decide_eq_false c15
       clear c15
       replace H := bi_ H; obtain ⟨⟨t635, t636⟩, A16, H⟩ := H
       (try dsimp only at H)
       by_cases c17 : t636 = 0
       ·rw [if_pos c17] at H
        have c17b0 : (t636 == 0) = true := beq_iff_eq.mpr c17
        have c17b1 : (t636 != 0) = false := bne_eq_false_iff_eq.mpr c17
        clear c17
        replace H := bi_ H; obtain ⟨⟨t637, t638⟩, A18, H⟩ := H
        (try dsimp only at H)
        replace H := bi_ H; obtain ⟨⟨t639, t640⟩, A19, H⟩ := H
        (try dsimp only at H)
        replace H := bi_ H; obtain ⟨⟨t641, t642⟩, A20, H⟩ := H
        (try dsimp only at H)
        replace H := bi_ H; obtain ⟨⟨t644, t645⟩, A21, H⟩ := H
        (try dsimp only at H)
        replace H := bi_ H; obtain ⟨t646, A22, H⟩ := H
        (try dsimp only at H)
        have HC23 := Aside0.mk H
        clear H
        have hcz24 := X.k2 BK633
        try go_wp2_with (first | ((with_reducible refine gc 22 rfl ?_); refine gm_ (some 39) rfl rfl Tryz.func22 (whole_Scale.calls _ _ _ _ _ _ _ A16.out) ag ?_; intro w25 hb; replace BK633 := bb BK633 hb; replace HB := bs HB hb; (try clear hb)))
        replace BK633 := Aside0.mk (blk_drew BK633.out)
        replace HB := Aside0.mk (below_drew1 HB.out)
        refine start_ (n := 11) (S := fun w' => c_ w' gb633 0 (.int .i64 a0_0) ∧ c_ w' gb633 1 (.int .i64 a0_1)) (ds := []) (m_ 11 0) (by kernel_rfl) rfl rfl ⟨ct BK633 0, ct BK633 1⟩ (fun hHeld => ?_); refine with_tabW demand_Rate.tab11 demand_Rate.bits11 (fun HT_ HW_ => ?_)
        generalize w25.drew = w26 at BK633 HB hHeld ⊢
        refine pu_ 0 (some 45) (m_ 11 1) rfl rfl (ao HT_) ?_
        refine pu_ 2 (some 47) (m_ 11 5) rfl rfl (ao HT_) ?_
        refine pu_ 4 (some 49) (m_ 11 21) rfl rfl (ao HT_) ?_
        refine pu_ 5 (some 50) (m_ 11 53) rfl rfl (ao HT_) ?_
        refine tk_ 1 (some 46) (m_ 11 55) rfl rfl (tw HT_ HW_) hHeld ?_
        refine tk_ 6 (some 51) (m_ 11 119) rfl rfl (tw HT_ HW_) hHeld ?_
        refine join_ (σ := Nat) 1 (m_ 11 1023) (fun s_ => [(48, .agg #[.int .u64 t637, .int .u64 t638]), (52, .agg #[.int .u64 t639, .int .u64 t640]), (53, .agg #[.int .u64 t641, .int .u64 t642]), (9, .pointer (some ⟨s_, 0, none⟩))]) (fun s_ w' => (c_ w' gb633 0 (.int .i64 a0_0) ∧ c_ w' gb633 1 (.int .i64 a0_1)) ∧ (w'.heap[gb633]? = some (.cells #[.int .i64 a0_0, .int .i64 a0_1] 23 (0, 0))) ∧ (w'.heap[s_]? = some (.cells #[.int .u64 0, .int .u64 0] 76 (0, 0))) ∧ (w.heap.size ≤ s_) ∧ (w.heap.size ≤ s_) ∧ (gb633 ≠ s_) ∧ (s_ ≠ gb633) ∧ (Below w.heap.size w w')) ?_ ?_
        rotate_left
        ·intro hCont
         refine two_ (i := 3) (j := 9) (Ni := some 48) (Nj := some 9) (m_ 11 127) (m_ 11 631) rfl rfl rfl rfl (two_of HT_.out (by kernel_rfl)) (by decide) (by decide) (fun K hK => ?_) (fun K hK => ?_)
         ·skip
          refine gs_ rfl Tryz.func23 (demand_new128.calls _ _ _ _ _ A18.out) ag ?_
          intro w27 hb
          replace BK633 := bb BK633 hb
          replace HB := bs HB hb
          (try clear hb)
          refine hK.out _ _ ⟨ct BK633 0, ct BK633 1⟩ (fun hHeld => ?_)
          clear hK K
          refine nr_ (some 48) ?_
          refine two_ (i := 7) (j := 9) (Ni := some 52) (Nj := some 9) (m_ 11 255) (m_ 11 639) rfl rfl rfl rfl (two_of HT_.out (by kernel_rfl)) (by decide) (by decide) (fun K hK => ?_) (fun K hK => ?_)
          ·skip
           refine gs_ rfl Tryz.func23 (demand_new128.calls _ _ _ _ _ A19.out) ag ?_
           intro w28 hb
           replace BK633 := bb BK633 hb
           replace HB := bs HB hb
           (try clear hb)
           refine hK.out _ _ ⟨ct BK633 0, ct BK633 1⟩ (fun hHeld => ?_)
           clear hK K
           refine nr_ (some 52) ?_
           refine two_ (i := 8) (j := 9) (Ni := some 53) (Nj := some 9) (m_ 11 511) (m_ 11 767) rfl rfl rfl rfl (two_of HT_.out (by kernel_rfl)) (by decide) (by decide) (fun K hK => ?_) (fun K hK => ?_)
           ·skip
            refine gs_ rfl Tryz.func24 (demand_long_less.calls _ _ _ _ _ _ _ A20.out) ag ?_
            intro w29 hb
            replace BK633 := bb BK633 hb
            replace HB := bs HB hb
            (try clear hb)
            refine hK.out _ _ ⟨ct BK633 0, ct BK633 1⟩ (fun hHeld => ?_)
            clear hK K
            refine nr_ (some 53) ?_
            refine o1_ 9 (some 9) (m_ 11 1023) rfl rfl (oo HT_) (fun K hK => ?_)
            refine box_step ?hg (N := 9) ?hd (cs := #[.int .u64 0, .int .u64 0]) (t := 76) ?hr ?_; (case hd => rfl); (case hg => rfl); (case hr => first | (go_simp; done) | (go_simp; rfl))
            intro gb643 hg w30 hbox hb
            have BK643 := Aside0.mk (hbox)
            have GW643 := bz HB hg
            have GE643 := bz HB hg
            have NB633_643 := bl BK633 hg
            have NB643_633 := bg BK633 hg
            replace BK633 := bb BK633 hb
            replace HB := bs HB hb
            clear hb hg
            refine hK.out _ _ ⟨ct BK633 0, ct BK633 1⟩ (fun hHeld => ?_)
            clear hK K
            refine nr_ (some 9) ?_
            exact norm_ (by simp only [putAll, Act.put, si, s0, s1]) (hCont (gb643) _ ⟨hHeld, (bx BK633), (bx BK643), GW643.out, GE643.out, NB633_643.out, NB643_633.out, (bf HB)⟩)
           ·skip
            refine box_step ?hg (N := 9) ?hd (cs := #[.int .u64 0, .int .u64 0]) (t := 76) ?hr ?_; (case hd => rfl); (case hg => rfl); (case hr => first | (go_simp; done) | (go_simp; rfl))
            intro gb643 hg w29 hbox hb
            have BK643 := Aside0.mk (hbox)
            have GW643 := bz HB hg
            have GE643 := bz HB hg
            have NB633_643 := bl BK633 hg
            have NB643_633 := bg BK633 hg
            replace BK633 := bb BK633 hb
            replace HB := bs HB hb
            clear hb hg
            refine hK.out _ _ ⟨ct BK633 0, ct BK633 1⟩ (fun hHeld => ?_)
            clear hK K
            refine nr_ (some 9) ?_
            refine o1_ 8 (some 53) (m_ 11 1023) rfl rfl (oo HT_) (fun K hK => ?_)
            refine gs_ rfl Tryz.func24 (demand_long_less.calls _ _ _ _ _ _ _ A20.out) ag ?_
            intro w30 hb
            replace BK633 := bb BK633 hb
            replace BK643 := bb BK643 hb
            replace HB := bs HB hb
            (try clear hb)
            refine hK.out _ _ ⟨ct BK633 0, ct BK633 1⟩ (fun hHeld => ?_)
            clear hK K
            refine nr_ (some 53) ?_
            exact norm_ (by simp only [putAll, Act.put, si, s0, s1]) (hCont (gb643) _ ⟨hHeld, (bx BK633), (bx BK643), GW643.out, GE643.out, NB633_643.out, NB643_633.out, (bf HB)⟩)
          ·skip
           refine box_step ?hg (N := 9) ?hd (cs := #[.int .u64 0, .int .u64 0]) (t := 76) ?hr ?_; (case hd => rfl); (case hg => rfl); (case hr => first | (go_simp; done) | (go_simp; rfl))
           intro gb643 hg w28 hbox hb
           have BK643 := Aside0.mk (hbox)
           have GW643 := bz HB hg
           have GE643 := bz HB hg
           have NB633_643 := bl BK633 hg
           have NB643_633 := bg BK633 hg
           replace BK633 := bb BK633 hb
           replace HB := bs HB hb
           clear hb hg
           refine hK.out _ _ ⟨ct BK633 0, ct BK633 1⟩ (fun hHeld => ?_)
           clear hK K
           refine nr_ (some 9) ?_
           refine o1_ 7 (some 52) (m_ 11 767) rfl rfl (oo HT_) (fun K hK => ?_)
           refine gs_ rfl Tryz.func23 (demand_new128.calls _ _ _ _ _ A19.out) ag ?_
           intro w29 hb
           replace BK633 := bb BK633 hb
           replace BK643 := bb BK643 hb
           replace HB := bs HB hb
           (try clear hb)
           refine hK.out _ _ ⟨ct BK633 0, ct BK633 1⟩ (fun hHeld => ?_)
           clear hK K
           refine nr_ (some 52) ?_
           refine o1_ 8 (some 53) (m_ 11 1023) rfl rfl (oo HT_) (fun K hK => ?_)
           refine gs_ rfl Tryz.func24 (demand_long_less.calls _ _ _ _ _ _ _ A20.out) ag ?_
           intro w30 hb
           replace BK633 := bb BK633 hb
           replace BK643 := bb BK643 hb
           replace HB := bs HB hb
           (try clear hb)
           refine hK.out _ _ ⟨ct BK633 0, ct BK633 1⟩ (fun hHeld => ?_)
           clear hK K
           refine nr_ (some 53) ?_
           exact norm_ (by simp only [putAll, Act.put, si, s0, s1]) (hCont (gb643) _ ⟨hHeld, (bx BK633), (bx BK643), GW643.out, GE643.out, NB633_643.out, NB643_633.out, (bf HB)⟩)
         ·skip
          refine box_step ?hg (N := 9) ?hd (cs := #[.int .u64 0, .int .u64 0]) (t := 76) ?hr ?_; (case hd => rfl); (case hg => rfl); (case hr => first | (go_simp; done) | (go_simp; rfl))
          intro gb643 hg w27 hbox hb
          have BK643 := Aside0.mk (hbox)
          have GW643 := bz HB hg
          have GE643 := bz HB hg
          have NB633_643 := bl BK633 hg
          have NB643_633 := bg BK633 hg
          replace BK633 := bb BK633 hb
          replace HB := bs HB hb
          clear hb hg
          refine hK.out _ _ ⟨ct BK633 0, ct BK633 1⟩ (fun hHeld => ?_)
          clear hK K
          refine nr_ (some 9) ?_
          refine o1_ 3 (some 48) (m_ 11 639) rfl rfl (oo HT_) (fun K hK => ?_)
          refine gs_ rfl Tryz.func23 (demand_new128.calls _ _ _ _ _ A18.out) ag ?_
          intro w28 hb
          replace BK633 := bb BK633 hb
          replace BK643 := bb BK643 hb
          replace HB := bs HB hb
          (try clear hb)
          refine hK.out _ _ ⟨ct BK633 0, ct BK633 1⟩ (fun hHeld => ?_)
          clear hK K
          refine nr_ (some 48) ?_
          refine o1_ 7 (some 52) (m_ 11 767) rfl rfl (oo HT_) (fun K hK => ?_)
          refine gs_ rfl Tryz.func23 (demand_new128.calls _ _ _ _ _ A19.out) ag ?_
          intro w29 hb
          replace BK633 := bb BK633 hb
          replace BK643 := bb BK643 hb
          replace HB := bs HB hb
          (try clear hb)
          refine hK.out _ _ ⟨ct BK633 0, ct BK633 1⟩ (fun hHeld => ?_)
          clear hK K
          refine nr_ (some 52) ?_
          refine o1_ 8 (some 53) (m_ 11 1023) rfl rfl (oo HT_) (fun K hK => ?_)
          refine gs_ rfl Tryz.func24 (demand_long_less.calls _ _ _ _ _ _ _ A20.out) ag ?_
          intro w30 hb
          replace BK633 := bb BK633 hb
          replace BK643 := bb BK643 hb
          replace HB := bs HB hb
          (try clear hb)
          refine hK.out _ _ ⟨ct BK633 0, ct BK633 1⟩ (fun hHeld => ?_)
          clear hK K
          refine nr_ (some 53) ?_
          exact norm_ (by simp only [putAll, Act.put, si, s0, s1]) (hCont (gb643) _ ⟨hHeld, (bx BK633), (bx BK643), GW643.out, GE643.out, NB633_643.out, NB643_633.out, (bf HB)⟩)
        rintro gb643 w31 ⟨hS_, h0_, h1_, h2_, h3_, h4_, h5_, h6_⟩
        have n0_ : Aside0 (w31.heap[gb633]? = some (.cells #[.int .i64 a0_0, .int .i64 a0_1] 23 (0, 0))) := ⟨h0_⟩
        have n1_ : Aside0 (w31.heap[gb643]? = some (.cells #[.int .u64 0, .int .u64 0] 76 (0, 0))) := ⟨h1_⟩
        have n2_ : Aside0 (w.heap.size ≤ gb643) := ⟨h2_⟩
        have n3_ : Aside0 (w.heap.size ≤ gb643) := ⟨h3_⟩
        have n4_ : Aside0 (gb633 ≠ gb643) := ⟨h4_⟩
        have n5_ : Aside0 (gb643 ≠ gb633) := ⟨h5_⟩
        have n6_ : Aside0 (Below w.heap.size w w31) := ⟨h6_⟩
        clear BK633
        clear HB
        clear h0_ h1_ h2_ h3_ h4_ h5_ h6_
        have BK633 := n0_
        have BK643 := n1_
        have GW643 := n2_
        have GE643 := n3_
        have NB633_643 := n4_
        have NB643_633 := n5_
        have HB := n6_
        clear n0_ n1_ n2_ n3_ n4_ n5_ n6_
        have hHeld : c_ w31 gb633 0 (.int .i64 a0_0) ∧ c_ w31 gb633 1 (.int .i64 a0_1) := hS_
        refine norm_ (a' := ?_) ?_ ?_
        rotate_left
        ·simp only [putAll, Act.put, si, s0, s1]
         rfl
        refine o1_ 10 (none) (m_ 11 2047) rfl rfl (oo HT_) (fun K hK => ?_)
        have hs32 : c_ w31 gb643 0 (.int .u64 0) := ct BK643 0
        have hfs32 := blk_frozen BK643.out 0
        have hns32_0 := nn NB633_643
        have hs33 : c_ w31 gb643 1 (.int .u64 0) := ct BK643 1
        have hfs33 := blk_frozen BK643.out 1
        have hns33_0 := nn NB633_643
        refine skip_ (w1 := ?_) (by rfl) rfl ?_ ?_
        rotate_left
        ·go_simp
         rfl
        refine hK.out _ _ (by obtain ⟨d0, d1⟩ := hHeld; exact ⟨fa_ NB633_643 (fa_ NB633_643 d0), fa_ NB633_643 (fa_ NB633_643 d1)⟩) (fun hHeld => ?_)
        clear hK K
        refine done_ (done_of HT_.out (by kernel_rfl)) ?_
        try go_wp2
        have n0_ : Aside0 (((w31.setCell ⟨gb643, 0, none⟩ (.int .u64 t641)).setCell ⟨gb643, 1, none⟩ (.int .u64 t642)).heap[gb633]? = some (.cells #[.int .i64 a0_0, .int .i64 a0_1] 23 (0, 0))) := bu_ BK633
        have n1_ : Aside0 (((w31.setCell ⟨gb643, 0, none⟩ (.int .u64 t641)).setCell ⟨gb643, 1, none⟩ (.int .u64 t642)).heap[gb643]? = some (.cells #[.int .u64 t641, .int .u64 t642] 76 (0, 0))) := bq_ BK643
        have n2_ : Aside0 (Below w.heap.size w ((w31.setCell ⟨gb643, 0, none⟩ (.int .u64 t641)).setCell ⟨gb643, 1, none⟩ (.int .u64 t642))) := ⟨bf HB⟩
        (try clear BK633); (try clear BK643); (try clear HB)
        generalize ((w31.setCell ⟨gb643, 0, none⟩ (.int .u64 t641)).setCell ⟨gb643, 1, none⟩ (.int .u64 t642)) = w34 at n0_ n1_ n2_ ⊢
        have BK633 := n0_
        have BK643 := n1_
        have HB := n2_
        clear n0_ n1_ n2_
        replace BK633 := Aside0.mk (blk_drew BK633.out)
        replace BK643 := Aside0.mk (blk_drew BK643.out)
        replace HB := Aside0.mk (below_drew1 HB.out)
        refine start_ (n := 5) (S := fun w' => c_ w' gb643 0 (.int .u64 t641) ∧ c_ w' gb643 1 (.int .u64 t642) ∧ c_ w' gb633 0 (.int .i64 a0_0) ∧ c_ w' gb633 1 (.int .i64 a0_1)) (ds := []) (m_ 5 0) (by kernel_rfl) rfl rfl ⟨ct BK643 0, ct BK643 1, ct BK633 0, ct BK633 1⟩ (fun hHeld => ?_)
        generalize w34.drew = w35 at BK633 BK643 HB hHeld ⊢
        refine pu_ 2 (some 56) (m_ 5 4) rfl rfl (by kernel_rfl) ?_
        refine tk_ 0 (some 54) (m_ 5 5) rfl rfl (by kernel_rfl) hHeld ?_
        refine tk_ 3 (some 57) (m_ 5 13) rfl rfl (by kernel_rfl) hHeld ?_
        refine o1_ 1 (some 55) (m_ 5 15) rfl rfl (by kernel_rfl) (fun K hK => ?_)
        refine gs_ rfl Tryz.func25 (demand_long_twice.calls _ _ _ _ _ A21.out) ag ?_
        intro w36 hb
        replace BK633 := bb BK633 hb
        replace BK643 := bb BK643 hb
        replace HB := bs HB hb
        (try clear hb)
        refine hK.out _ _ ⟨ct BK643 0, ct BK643 1, ct BK633 0, ct BK633 1⟩ (fun hHeld => ?_)
        clear hK K
        refine nr_ (some 55) ?_
        refine o1_ 4 (some 58) (m_ 5 31) rfl rfl (by kernel_rfl) (fun K hK => ?_)
        refine gs_ rfl Tryz.func26 (demand_long_atLeast.calls _ _ _ _ _ A22.out) ag ?_
        intro w37 hb
        replace BK633 := bb BK633 hb
        replace BK643 := bb BK643 hb
        replace HB := bs HB hb
        (try clear hb)
        refine hK.out _ _ ⟨ct BK643 0, ct BK643 1, ct BK633 0, ct BK633 1⟩ (fun hHeld => ?_)
        clear hK K
        refine nr_ (some 58) ?_
        refine done_ (by kernel_rfl) ?_
        go_upto_if 58 with (fail)
        go_cut [7] (fun v7 wc => ∃ (kq : Nat) (x7_22 : Int), v7 = .int .i64 x7_22 ∧ Aside0 (demand_Rate.j2 kq a1 x7_22 = some (r1, r2)) ∧ Aside0 (kq ≤ k2) ∧ Aside0 (wc.heap[gb633]? = some (.cells #[.int .i64 a0_0, .int .i64 a0_1] 23 (0, 0))) ∧ Aside0 (wc.heap[gb643]? = some (.cells #[.int .u64 t641, .int .u64 t642] 76 (0, 0))) ∧ Aside0 (Below w.heap.size w wc))
        case first =>
         have H := HC23.out
         clear HC23
         by_cases c38 : t646 = true
         ·subst c38
          have H1 : ((whole_Add.f t635 1).bind fun bt647 => (if bt647.2 = 0 then (demand_Rate.j2 k2 a1 bt647.1) else (some ((⟨#[]⟩ : ByteArray), bt647.2)))) = some (r1, r2) := by rw [if_pos rfl] at H; exact H
          clear H
          have H := H1
          clear H1
          replace H := bi_ H; obtain ⟨⟨t647, t648⟩, A39, H⟩ := H
          (try dsimp only at H)
          by_cases c40 : t648 = 0
          ·rw [if_pos c40] at H
           have c40b0 : (t648 == 0) = true := beq_iff_eq.mpr c40
           have c40b1 : (t648 != 0) = false := bne_eq_false_iff_eq.mpr c40
           clear c40
           (first | rw [c40b0] | (simp only [i64_w, i32_w]; rw [c40b0]) | skip)
           have H' := Aside0.mk H
           clear H
           go_wp2_with (first | ((with_reducible refine gc 27 rfl ?_); refine gm_ (some 61) rfl rfl Tryz.func27 (whole_Add.calls _ _ _ _ _ A39.out) ag ?_; rintro w' ⟨nd, rfl⟩))
           go_meet
           case rel => exact ⟨_, (t647), (aq), H', ⟨by have := HJ2.out; have := HK2.out; first | omega | exact Nat.le_refl _⟩, bu_ BK633, bu_ BK643, ⟨bf HB⟩⟩
          ·rw [if_neg c40] at H
           have c40b0 : (t648 == 0) = false := beq_eq_false_iff_ne.mpr c40
           have c40b1 : (t648 != 0) = true := bne_iff_ne.mpr c40
           (first | rw [c40b0] | (simp only [i64_w, i32_w]; rw [c40b0]) | skip)
           simp only [Option.some.injEq, Prod.mk.injEq] at H
           obtain ⟨rfl, rfl⟩ := H
           go_wp2_with (first | ((with_reducible refine gc 27 rfl ?_); refine gm_ (some 61) rfl rfl Tryz.func27 (whole_Add.calls _ _ _ _ _ A39.out) ag ?_; rintro w' ⟨nd, rfl⟩))
           go_ret2
           exact ⟨ae, bf HB⟩
         ·replace c38 := Bool.eq_false_iff.mpr c38
          subst c38
          have H1 : (demand_Rate.j2 k2 a1 t635) = some (r1, r2) := by rw [if_neg (show ¬ (false = true) by decide)] at H; exact H
          clear H
          have H := H1
          clear H1
          have H' := Aside0.mk H
          clear H
          go_wp2
          go_meet
          case rel => exact ⟨_, (t635), (aq), H', ⟨by have := HJ2.out; have := HK2.out; first | omega | exact Nat.le_refl _⟩, bu_ BK633, bu_ BK643, ⟨bf HB⟩⟩
        case rest =>
         clear HC23
         (try clear c2); (try clear p2); (try clear c3); (try clear c4); (try clear c22); (try clear c23); (try clear c24); (try clear c25); (try clear c26); (try clear c27); (try clear c38); (try clear c40); (try clear c40b0); (try clear c40b1); (try clear hcz24)
         obtain ⟨kq, x7_22, rfl, HA, HJ22, BK633, BK643, HB⟩ := hcut
         cases kq with
         | zero => exact absurd HA.out (by simp [demand_Rate.j2])
         | succ kj22 =>
          have H := HA.out
          clear HA
          simp only [demand_Rate.j2] at H
          replace H := bi_ H; obtain ⟨t649, A41, H⟩ := H
          (try dsimp only at H)
          by_cases c42 : (t649.size : Int) ≤ a1
          ·rw [if_pos c42] at H
           have c42b0 : decide ((t649.size : Int) ≤ a1) = true := decide_eq_true c42
           clear c42
           replace H := bi_ H; obtain ⟨t650, A43, H⟩ := H
           (try dsimp only at H)
           by_cases c44 : t650.size + t649.size ≤ 9223372036854775807
           ·rw [if_pos c44] at H
            have c44b0 := eq_true c44
            have c44b1 : decide (t650.size + t649.size ≤ 9223372036854775807) = true := decide_eq_true c44
            try have c44b2 : (9223372036854775807 < t650.size + t649.size) = False := eq_false (Nat.not_lt.2 c44)
            obtain ⟨st650t649, hst650t649⟩ : ∃ s_ : ByteArray, t650 ++ t649 = s_ := ⟨_, rfl⟩
            rw [hst650t649] at H
            by_cases c45 : a1 = 0
            ·rw [if_pos c45] at H
             have c45b0 : (a1 == 0) = true := beq_iff_eq.mpr c45
             have c45b1 : (a1 != 0) = false := bne_eq_false_iff_eq.mpr c45
             clear c45
             simp only [Option.some.injEq, Prod.mk.injEq] at H
             obtain ⟨rfl, rfl⟩ := H
             go_wp2_with (first | ((with_reducible refine gc 28 rfl ?_); refine gm_ (some 68) rfl rfl Tryz.func28 (strconv_FormatInt.calls _ _ _ _ A41.out (tt GT)) ag ?_; intro w46 hb; replace BK633 := bb BK633 hb; replace BK643 := bb BK643 hb; replace HB := bs HB hb; (try clear hb)) | ((with_reducible refine gc 29 rfl ?_); refine gm_ (some 78) rfl rfl Tryz.func29 (strings_Repeat.calls (⟨#[48]⟩ : ByteArray) (wrap64 ((wrap64 (a1 + 1)) - (t649.size : Int))) _ _ A43.out) ag ?_; intro w47 hb; replace BK633 := bb BK633 hb; replace BK643 := bb BK643 hb; replace HB := bs HB hb; (try clear hb)))
             go_ret2
             exact ⟨ae, bf HB⟩
            ·rw [if_neg c45] at H
             have c45b0 : (a1 == 0) = false := beq_eq_false_iff_ne.mpr c45
             have c45b1 : (a1 != 0) = true := bne_iff_ne.mpr c45
             obtain ⟨ji48, hji48⟩ : ∃ j_ : Int, (wrap64 ((st650t649.size : Int) - a1)) = j_ := ⟨_, rfl⟩
             replace H : (if 0 ≤ (ji48) then (if (ji48) ≤ (st650t649.size : Int) then (if (st650t649.extract 0 ((ji48) : Int).toNat).size + 1 ≤ 9223372036854775807 then (if ((st650t649.extract 0 ((ji48) : Int).toNat) ++ (⟨#[46]⟩ : ByteArray)).size + (st650t649.extract ((ji48) : Int).toNat st650t649.size).size ≤ 9223372036854775807 then (some (((st650t649.extract 0 ((ji48) : Int).toNat) ++ (⟨#[46]⟩ : ByteArray)) ++ (st650t649.extract ((ji48) : Int).toNat st650t649.size), 0)) else (none)) else (none)) else (none)) else (none)) = some (r1, r2) := by first | (rw [hji48] at H; exact H) | (simp only [hji48] at H ⊢; exact H)
             (try rw [hji48] at A41)
             (try rw [hji48] at A43)
             have hji48w : (IntKind.i64.wrap ((st650t649.size : Int) - a1)) = ji48 := (i64_w _).trans hji48
             by_cases c49 : 0 ≤ (ji48)
             ·rw [if_pos c49] at H
              have c49b0 := eq_true c49
              have c49b1 : decide (0 ≤ (ji48)) = true := decide_eq_true c49
              clear c49
              by_cases c50 : (ji48) ≤ (st650t649.size : Int)
              ·rw [if_pos c50] at H
               have c50b0 := eq_true c50
               have c50b1 : decide ((ji48) ≤ (st650t649.size : Int)) = true := decide_eq_true c50
               by_cases c51 : (st650t649.extract 0 ((ji48) : Int).toNat).size + 1 ≤ 9223372036854775807
               ·rw [if_pos c51] at H
                have c51b0 := eq_true c51
                have c51b1 : decide ((st650t649.extract 0 ((ji48) : Int).toNat).size + 1 ≤ 9223372036854775807) = true := decide_eq_true c51
                try have c51b2 : (9223372036854775807 < (st650t649.extract 0 ((ji48) : Int).toNat).size + 1) = False := eq_false (Nat.not_lt.2 c51)
                try have c51b3 : (9223372036854775807 < (ji48 : Int).toNat + 1) = False := eq_false (Nat.not_lt.2 (by have e_ := c51; have e3_ : (ji48) ≤ (st650t649.size : Int) := of_decide_eq_true (by assumption); rw [ByteArray.size_extract] at e_; omega))
                have c52b0 := eq_true (od_ : 0 ≤ (ji48))
                have c53b0 := eq_true (od_ : (ji48) ≤ (st650t649.size : Int))
                by_cases c54 : ((st650t649.extract 0 ((ji48) : Int).toNat) ++ (⟨#[46]⟩ : ByteArray)).size + (st650t649.extract ((ji48) : Int).toNat st650t649.size).size ≤ 9223372036854775807
                ·rw [if_pos c54] at H
                 have c54b0 := eq_true c54
                 have c54b1 : decide (((st650t649.extract 0 ((ji48) : Int).toNat) ++ (⟨#[46]⟩ : ByteArray)).size + (st650t649.extract ((ji48) : Int).toNat st650t649.size).size ≤ 9223372036854775807) = true := decide_eq_true c54
                 try have c54b2 : (9223372036854775807 < ((st650t649.extract 0 ((ji48) : Int).toNat) ++ (⟨#[46]⟩ : ByteArray)).size + (st650t649.extract ((ji48) : Int).toNat st650t649.size).size) = False := eq_false (Nat.not_lt.2 c54)
                 try have c54b3 : (9223372036854775807 < (ji48 : Int).toNat + 1 + (st650t649.size - (ji48 : Int).toNat)) = False := eq_false (Nat.not_lt.2 (by have e_ := c54; have e3_ : (ji48) ≤ (st650t649.size : Int) := of_decide_eq_true (by assumption); rw [ByteArray.size_append, ByteArray.size_extract, ByteArray.size_extract] at e_; have e2_ : (⟨#[46]⟩ : ByteArray).size = 1 := rfl; omega))
                 simp only [Option.some.injEq, Prod.mk.injEq] at H
                 obtain ⟨rfl, rfl⟩ := H
                 try go_wp2_with (first | ((with_reducible refine gc 28 rfl ?_); refine gm_ (some 68) rfl rfl Tryz.func28 (strconv_FormatInt.calls _ _ _ _ A41.out (tt GT)) ag ?_; intro w55 hb; replace BK633 := bb BK633 hb; replace BK643 := bb BK643 hb; replace HB := bs HB hb; (try clear hb)) | ((with_reducible refine gc 29 rfl ?_); refine gm_ (some 78) rfl rfl Tryz.func29 (strings_Repeat.calls (⟨#[48]⟩ : ByteArray) (wrap64 ((wrap64 (a1 + 1)) - (t649.size : Int))) _ _ A43.out) ag ?_; intro w56 hb; replace BK633 := bb BK633 hb; replace BK643 := bb BK643 hb; replace HB := bs HB hb; (try clear hb)))
                 replace BK633 := Aside0.mk (blk_drew BK633.out)
                 replace BK643 := Aside0.mk (blk_drew BK643.out)
                 replace HB := Aside0.mk (below_drew1 HB.out)
                 refine start_ (n := 16) (S := fun w' => True) (ds := []) (m_ 16 0) (by kernel_rfl) rfl rfl trivial (fun hHeld => ?_); refine with_tabW demand_Rate.tab21 demand_Rate.bits21 (fun HT_ HW_ => ?_)
                 generalize w56.drew = w57 at BK633 BK643 HB hHeld ⊢
                 refine pu_ 0 (some 84) (m_ 16 1) rfl rfl (ao HT_) ?_
                 refine pu_ 1 (some 85) (m_ 16 3) rfl rfl (ao HT_) ?_
                 refine pu_ 2 (some 86) (m_ 16 7) rfl rfl (ao HT_) ?_
                 refine pu_ 3 (some 87) (m_ 16 15) rfl rfl (ao HT_) ?_
                 refine pu_ 4 (some 88) (m_ 16 31) rfl rfl (ao HT_) ?_
                 refine pu_ 5 (some 89) (m_ 16 63) rfl rfl (ao HT_) ?_
                 refine pu_ 6 (some 90) (m_ 16 127) rfl rfl (ao HT_) ?_
                 refine pu_ 7 (some 91) (m_ 16 255) rfl rfl (ao HT_) ?_
                 refine pu_ 8 (some 92) (m_ 16 511) rfl rfl (ao HT_) ?_
                 refine pu_ 9 (some 93) (m_ 16 1023) rfl rfl (ao HT_) ?_
                 refine pu_ 10 (some 94) (m_ 16 2047) rfl rfl (ao HT_) ?_
                 refine pu_ 11 (some 95) (m_ 16 4095) rfl rfl (ao HT_) ?_
                 refine pu_ 12 (some 96) (m_ 16 8191) rfl rfl (ao HT_) ?_
                 refine pu_ 13 (some 97) (m_ 16 16383) rfl rfl (ao HT_) ?_
                 refine pu_ 14 (some 4) (m_ 16 32767) rfl rfl (ao HT_) ?_
                 refine pu_ 15 (some 5) (m_ 16 65535) rfl rfl (ao HT_) ?_
                 refine done_ (done_of HT_.out (by kernel_rfl)) ?_
                 try go_wp2
                 go_ret2
                 exact ⟨by first | rfl | (simp [errW_none, errW_some] <;> rfl) | (simp only [← hji48]; first | rfl | (simp [errW_none, errW_some] <;> rfl)) | (simp [*, errW_none, errW_some] <;> rfl), bf HB⟩
                ·rw [if_neg c54] at H
                 exact absurd H (by simp)
               ·rw [if_neg c51] at H
                exact absurd H (by simp)
              ·rw [if_neg c50] at H
               exact absurd H (by simp)
             ·rw [if_neg c49] at H
              exact absurd H (by simp)
           ·rw [if_neg c44] at H
            exact absurd H (by simp)
          ·rw [if_neg c42] at H
           have c42b0 : decide ((t649.size : Int) ≤ a1) = false := decide_eq_false c42
           clear c42
           by_cases c58 : a1 = 0
           ·rw [if_pos c58] at H
            have c58b0 : (a1 == 0) = true := beq_iff_eq.mpr c58
            have c58b1 : (a1 != 0) = false := bne_eq_false_iff_eq.mpr c58
            clear c58
            simp only [Option.some.injEq, Prod.mk.injEq] at H
            obtain ⟨rfl, rfl⟩ := H
            go_wp2_with (first | ((with_reducible refine gc 28 rfl ?_); refine gm_ (some 68) rfl rfl Tryz.func28 (strconv_FormatInt.calls _ _ _ _ A41.out (tt GT)) ag ?_; intro w59 hb; replace BK633 := bb BK633 hb; replace BK643 := bb BK643 hb; replace HB := bs HB hb; (try clear hb)))
            go_ret2
            exact ⟨ae, bf HB⟩
           ·rw [if_neg c58] at H
            have c58b0 : (a1 == 0) = false := beq_eq_false_iff_ne.mpr c58
            have c58b1 : (a1 != 0) = true := bne_iff_ne.mpr c58
            obtain ⟨ji60, hji60⟩ : ∃ j_ : Int, (wrap64 ((t649.size : Int) - a1)) = j_ := ⟨_, rfl⟩
            replace H : (if 0 ≤ (ji60) then (if (ji60) ≤ (t649.size : Int) then (if (t649.extract 0 ((ji60) : Int).toNat).size + 1 ≤ 9223372036854775807 then (if ((t649.extract 0 ((ji60) : Int).toNat) ++ (⟨#[46]⟩ : ByteArray)).size + (t649.extract ((ji60) : Int).toNat t649.size).size ≤ 9223372036854775807 then (some (((t649.extract 0 ((ji60) : Int).toNat) ++ (⟨#[46]⟩ : ByteArray)) ++ (t649.extract ((ji60) : Int).toNat t649.size), 0)) else (none)) else (none)) else (none)) else (none)) = some (r1, r2) := by first | (rw [hji60] at H; exact H) | (simp only [hji60] at H ⊢; exact H)
            (try rw [hji60] at A41)
            have hji60w : (IntKind.i64.wrap ((t649.size : Int) - a1)) = ji60 := (i64_w _).trans hji60
            by_cases c61 : 0 ≤ (ji60)
            ·rw [if_pos c61] at H
             have c61b0 := eq_true c61
             have c61b1 : decide (0 ≤ (ji60)) = true := decide_eq_true c61
             clear c61
             by_cases c62 : (ji60) ≤ (t649.size : Int)
             ·rw [if_pos c62] at H
              have c62b0 := eq_true c62
              have c62b1 : decide ((ji60) ≤ (t649.size : Int)) = true := decide_eq_true c62
              clear c62
              by_cases c63 : (t649.extract 0 ((ji60) : Int).toNat).size + 1 ≤ 9223372036854775807
              ·rw [if_pos c63] at H
               have c63b0 := eq_true c63
               have c63b1 : decide ((t649.extract 0 ((ji60) : Int).toNat).size + 1 ≤ 9223372036854775807) = true := decide_eq_true c63
               try have c63b2 : (9223372036854775807 < (t649.extract 0 ((ji60) : Int).toNat).size + 1) = False := eq_false (Nat.not_lt.2 c63)
               try have c63b3 : (9223372036854775807 < (ji60 : Int).toNat + 1) = False := eq_false (Nat.not_lt.2 (by have e_ := c63; have e3_ : (ji60) ≤ (t649.size : Int) := of_decide_eq_true (by assumption); rw [ByteArray.size_extract] at e_; omega))
               have c64b0 := eq_true (od_ : 0 ≤ (ji60))
               have c65b0 := eq_true (od_ : (ji60) ≤ (t649.size : Int))
               by_cases c66 : ((t649.extract 0 ((ji60) : Int).toNat) ++ (⟨#[46]⟩ : ByteArray)).size + (t649.extract ((ji60) : Int).toNat t649.size).size ≤ 9223372036854775807
               ·rw [if_pos c66] at H
                have c66b0 := eq_true c66
                have c66b1 : decide (((t649.extract 0 ((ji60) : Int).toNat) ++ (⟨#[46]⟩ : ByteArray)).size + (t649.extract ((ji60) : Int).toNat t649.size).size ≤ 9223372036854775807) = true := decide_eq_true c66
                try have c66b2 : (9223372036854775807 < ((t649.extract 0 ((ji60) : Int).toNat) ++ (⟨#[46]⟩ : ByteArray)).size + (t649.extract ((ji60) : Int).toNat t649.size).size) = False := eq_false (Nat.not_lt.2 c66)
                try have c66b3 : (9223372036854775807 < (ji60 : Int).toNat + 1 + (t649.size - (ji60 : Int).toNat)) = False := eq_false (Nat.not_lt.2 (by have e_ := c66; have e3_ : (ji60) ≤ (t649.size : Int) := of_decide_eq_true (by assumption); rw [ByteArray.size_append, ByteArray.size_extract, ByteArray.size_extract] at e_; have e2_ : (⟨#[46]⟩ : ByteArray).size = 1 := rfl; omega))
                simp only [Option.some.injEq, Prod.mk.injEq] at H
                obtain ⟨rfl, rfl⟩ := H
                try go_wp2_with (first | ((with_reducible refine gc 28 rfl ?_); refine gm_ (some 68) rfl rfl Tryz.func28 (strconv_FormatInt.calls _ _ _ _ A41.out (tt GT)) ag ?_; intro w67 hb; replace BK633 := bb BK633 hb; replace BK643 := bb BK643 hb; replace HB := bs HB hb; (try clear hb)))
                replace BK633 := Aside0.mk (blk_drew BK633.out)
                replace BK643 := Aside0.mk (blk_drew BK643.out)
                replace HB := Aside0.mk (below_drew1 HB.out)
                refine start_ (n := 16) (S := fun w' => True) (ds := []) (m_ 16 0) (by kernel_rfl) rfl rfl trivial (fun hHeld => ?_); refine with_tabW demand_Rate.tab21 demand_Rate.bits21 (fun HT_ HW_ => ?_)
                generalize w67.drew = w68 at BK633 BK643 HB hHeld ⊢
                refine pu_ 0 (some 84) (m_ 16 1) rfl rfl (ao HT_) ?_
                refine pu_ 1 (some 85) (m_ 16 3) rfl rfl (ao HT_) ?_
                refine pu_ 2 (some 86) (m_ 16 7) rfl rfl (ao HT_) ?_
                refine pu_ 3 (some 87) (m_ 16 15) rfl rfl (ao HT_) ?_
                refine pu_ 4 (some 88) (m_ 16 31) rfl rfl (ao HT_) ?_
                refine pu_ 5 (some 89) (m_ 16 63) rfl rfl (ao HT_) ?_
                refine pu_ 6 (some 90) (m_ 16 127) rfl rfl (ao HT_) ?_
                refine pu_ 7 (some 91) (m_ 16 255) rfl rfl (ao HT_) ?_
                refine pu_ 8 (some 92) (m_ 16 511) rfl rfl (ao HT_) ?_
                refine pu_ 9 (some 93) (m_ 16 1023) rfl rfl (ao HT_) ?_
                refine pu_ 10 (some 94) (m_ 16 2047) rfl rfl (ao HT_) ?_
                refine pu_ 11 (some 95) (m_ 16 4095) rfl rfl (ao HT_) ?_
                refine pu_ 12 (some 96) (m_ 16 8191) rfl rfl (ao HT_) ?_
                refine pu_ 13 (some 97) (m_ 16 16383) rfl rfl (ao HT_) ?_
                refine pu_ 14 (some 4) (m_ 16 32767) rfl rfl (ao HT_) ?_
                refine pu_ 15 (some 5) (m_ 16 65535) rfl rfl (ao HT_) ?_
                refine done_ (done_of HT_.out (by kernel_rfl)) ?_
                try go_wp2
                go_ret2
                exact ⟨by first | rfl | (simp [errW_none, errW_some] <;> rfl) | (simp only [← hji60]; first | rfl | (simp [errW_none, errW_some] <;> rfl)) | (simp [*, errW_none, errW_some] <;> rfl), bf HB⟩
               ·rw [if_neg c66] at H
                exact absurd H (by simp)
              ·rw [if_neg c63] at H
               exact absurd H (by simp)
             ·rw [if_neg c62] at H
              exact absurd H (by simp)
            ·rw [if_neg c61] at H
             exact absurd H (by simp)
       ·rw [if_neg c17] at H
        have c17b0 : (t636 == 0) = false := beq_eq_false_iff_ne.mpr c17
        have c17b1 : (t636 != 0) = true := bne_iff_ne.mpr c17
        simp only [Option.some.injEq, Prod.mk.injEq] at H
        obtain ⟨rfl, rfl⟩ := H
        have hcz69 := X.k2 BK633
        go_wp2_with (first | ((with_reducible refine gc 22 rfl ?_); refine gm_ (some 39) rfl rfl Tryz.func22 (whole_Scale.calls _ _ _ _ _ _ _ A16.out) ag ?_; intro w70 hb; replace HB := bs HB hb; (try clear hb)))
        go_ret2
        exact ⟨ae, bf HB⟩

end Go.Proofs.YtfhokgkpcphmlaaGreatDoor.X
