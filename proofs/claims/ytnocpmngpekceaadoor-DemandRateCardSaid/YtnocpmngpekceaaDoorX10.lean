/- Walks: each '.calls' says that the Go function comes to what its Lean function tells. Conditions: as each theorem's head says. -/
import Derived.Test.YtnocpmngpekceaaDoorXD
import Derived.Test.YtnocpmngpekceaaDoorX0
import Derived.Test.YtnocpmngpekceaaDoorX7
import Derived.Test.YtnocpmngpekceaaDoorX8
import Derived.Test.YtnocpmngpekceaaDoorX9
namespace Go.Proofs.YtnocpmngpekceaaDoor.X
open Go.RowKit Go.Proofs.YtnocpmngpekceaaDoorW.PrintWords Go.Proofs.YtnocpmngpekceaaDoorW.PrintLast Go.Proofs.YtnocpmngpekceaaDoorW.PrintMore
attribute [local go_sem] max2_int min2_int max_two min_two max_three min_three max_four min_four   -- for this text's walks alone
set_option linter.unusedVariables false
set_option maxHeartbeats 8000000
set_option maxRecDepth 100000
set_option linter.unusedSimpArgs false

/-! ### carrefourref09_Rate: function 5 -/
def carrefourref09_Rate.T11 : Bool × List (List Nat × List Nat) := (true, [([], []), ([0], [0]), ([1], [1]), ([], []), ([3], [3]), ([2, 4], [2, 4]), ([], []), ([6], [6]), ([], []), ([8], [8]), ([9], [9]), ([7, 10, 5], [7, 10]), ([11, 11], [11]), ([5, 12, 12], [5, 12]), ([13, 13, 0, 1, 2, 3, 4, 5, 6, 7, 8, 9, 10, 11, 12, 13], [13])])
def carrefourref09_Rate.B11 : List Nat := [0, 1, 3, 0, 8, 31, 0, 64, 0, 256, 768, 2047, 4095, 8191, 16383]
theorem carrefourref09_Rate.tab11 : rtab .any (opsOf Tryd.f5 11) = carrefourref09_Rate.T11 := by kernel_rfl
theorem carrefourref09_Rate.bits11 : waitsOk carrefourref09_Rate.T11.2 carrefourref09_Rate.B11 = true := by kernel_rfl
def carrefourref09_Rate.T12 : Bool × List (List Nat × List Nat) := (true, [([], []), ([], []), ([0, 1], [0, 1]), ([], []), ([3], [3]), ([4], [4]), ([5, 2], [5]), ([2, 6, 6], [2, 6]), ([7], [7])])
def carrefourref09_Rate.B12 : List Nat := [0, 0, 3, 0, 8, 24, 63, 127, 255]
theorem carrefourref09_Rate.tab12 : rtab .any (opsOf Tryd.f5 12) = carrefourref09_Rate.T12 := by kernel_rfl
theorem carrefourref09_Rate.bits12 : waitsOk carrefourref09_Rate.T12.2 carrefourref09_Rate.B12 = true := by kernel_rfl
def carrefourref09_Rate.T21 : Bool × List (List Nat × List Nat) := (true, [([], []), ([], []), ([1], [1]), ([], []), ([2, 3], [2, 3]), ([0, 4], [0, 4]), ([5], [5]), ([], []), ([], []), ([8], [8]), ([], []), ([9, 10], [9, 10]), ([7, 11], [7, 11]), ([6, 12], [6, 12]), ([13, 0, 1, 2, 3, 4, 5, 6, 7, 8, 9, 10, 11, 12, 13], [13]), ([14, 0, 1, 2, 3, 4, 5, 6, 7, 8, 9, 10, 11, 12, 13, 14], [])])
def carrefourref09_Rate.B21 : List Nat := [0, 0, 2, 0, 14, 31, 63, 0, 0, 256, 0, 1792, 3968, 8191, 16383, 32767]
theorem carrefourref09_Rate.tab21 : rtab .any (opsOf Tryd.f5 21) = carrefourref09_Rate.T21 := by kernel_rfl
theorem carrefourref09_Rate.bits21 : waitsOk carrefourref09_Rate.T21.2 carrefourref09_Rate.B21 = true := by kernel_rfl
theorem carrefourref09_Rate.calls (k : Nat) (a0_0 : Int) (a0_1 : Int) (a1 : Int) (r1 : ByteArray) (r2 : Int) (w : World) (h : carrefourref09_Rate.f k a0_0 a0_1 a1 = some (r1, r2)) :
    Calls Tryd.prog 5 #[.agg #[.int .i64 a0_0, .int .i64 a0_1], .int .i64 a1] w fun e w' => e = .returned (.tuple #[.string r1, .int .i64 r2]) ∧ Below w.heap.size w w' := by
  have hu23 := Tryd.underlying23
  have HB := Aside0.mk (Below.refl w.heap.size w)
  have H : (if a1 < 0 then (carrefourref09_Rate.j0 k a1 true a0_0 a0_1) else (if a1 > 9 then (carrefourref09_Rate.j0 k a1 true a0_0 a0_1) else ((carrefourref02_Right.f k a0_0 a0_1).bind fun t270 => (if t270 = true then (carrefourref09_Rate.j0 k a1 (decide (a0_0 < 0)) a0_0 a0_1) else (carrefourref09_Rate.j0 k a1 true a0_0 a0_1))))) = some (r1, r2) := h
  clear h
  have HC3 := Aside0.mk H
  clear H
  go_enter Tryd.func5, Tryd.ntmps5
  go_upto_region 1 with (first | ((with_reducible refine gd 2 rfl ?_); refine bx_ 2 23 #[.int .i64 a0_0, .int .i64 a0_1] rfl rfl ?_; intro gb269 hg w4 BK269 hb; have GE269 := bz HB hg; replace HB := bs HB hb; clear hb hg))
  (try simp only [Act.put, si, s0, s1])
  go_cut [27] (fun v27 wc => ∃ (kq : Nat) (x27_2 : Bool), v27 = .bool x27_2 ∧ Aside0 (carrefourref09_Rate.j0 kq a1 x27_2 a0_0 a0_1 = some (r1, r2)) ∧ Aside0 (kq ≤ k) ∧ Aside0 (wc.heap[gb269]? = some (.cells #[.int .i64 a0_0, .int .i64 a0_1] 23 (0, 0))) ∧ Aside0 (Below w.heap.size w wc))
  case first =>
    have H := HC3.out
    clear HC3
    by_cases c5 : a1 < 0
    · rw [if_pos c5] at H
      have c5b0 : decide (a1 < 0) = true := decide_eq_true c5
      clear c5
      (first | rw [c5b0] | (simp only [i64_w, i32_w]; rw [c5b0]) | skip)
      have H' := Aside0.mk H
      clear H
      go_wp2
      go_meet
      case rel => exact ⟨_, (true), (aq), H', ⟨by first | omega | exact Nat.le_refl _⟩, bu_ BK269, ⟨bf HB⟩⟩
    · rw [if_neg c5] at H
      have c5b0 : decide (a1 < 0) = false := decide_eq_false c5
      clear c5
      (first | rw [c5b0] | (simp only [i64_w, i32_w]; rw [c5b0]) | skip)
      by_cases c6 : a1 > 9
      · rw [if_pos c6] at H
        have c6b0 : decide (9 < a1) = true := decide_eq_true c6
        clear c6
        have H' := Aside0.mk H
        clear H
        go_wp2
        go_meet
        case rel => exact ⟨_, (true), (aq), H', ⟨by first | omega | exact Nat.le_refl _⟩, bu_ BK269, ⟨bf HB⟩⟩
      · rw [if_neg c6] at H
        have c6b0 : decide (9 < a1) = false := decide_eq_false c6
        clear c6
        replace H := bi_ H; obtain ⟨t270, A7, H⟩ := H
        (try dsimp only at H)
        by_cases c8 : t270 = true
        · subst c8
          have H1 : (carrefourref09_Rate.j0 k a1 (decide (a0_0 < 0)) a0_0 a0_1) = some (r1, r2) := by rw [if_pos rfl] at H; exact H
          clear H
          have H := H1
          clear H1
          have H' := Aside0.mk H
          clear H
          have hcz9 := X.k2 BK269
          go_wp2_with (first | (go_at_call 16; (with_reducible refine (carrefourref02_Right.calls _ _ _ _ _ A7.out).mono ?_); rintro e w10 ⟨rfl, hb⟩; replace BK269 := bb BK269 hb; replace HB := bs HB hb; (try clear hb); have hcz11 := X.k2 BK269))
          go_meet
          case rel => exact ⟨_, (decide (a0_0 < 0)), (aq), H', ⟨by first | omega | exact Nat.le_refl _⟩, bu_ BK269, ⟨bf HB⟩⟩
        · replace c8 := Bool.eq_false_iff.mpr c8
          subst c8
          have H1 : (carrefourref09_Rate.j0 k a1 true a0_0 a0_1) = some (r1, r2) := by rw [if_neg (show ¬ (false = true) by decide)] at H; exact H
          clear H
          have H := H1
          clear H1
          have H' := Aside0.mk H
          clear H
          have hcz12 := X.k2 BK269
          go_wp2_with (first | (go_at_call 16; (with_reducible refine (carrefourref02_Right.calls _ _ _ _ _ A7.out).mono ?_); rintro e w13 ⟨rfl, hb⟩; replace BK269 := bb BK269 hb; replace HB := bs HB hb; (try clear hb)))
          go_meet
          case rel => exact ⟨_, (true), (aq), H', ⟨by first | omega | exact Nat.le_refl _⟩, bu_ BK269, ⟨bf HB⟩⟩
  case rest =>
    clear HC3
    try clear p2
    try clear c5
    try clear c5b0
    try clear c6
    try clear c6b0
    try clear c8
    try clear hcz11
    try clear hcz12
    try clear hcz9
    obtain ⟨kq, x27_2, rfl, HA, HJ2, BK269, HB⟩ := hcut
    cases kq with
    | zero => exact absurd HA.out (by simp [carrefourref09_Rate.j0])
    | succ kj2 =>
      have H := HA.out
      clear HA
      simp only [carrefourref09_Rate.j0] at H
      by_cases c14 : x27_2 = true
      · subst c14
        have H1 : (some ((⟨#[]⟩ : ByteArray), 1)) = some (r1, r2) := by rw [if_pos rfl] at H; exact H
        clear H
        have H := H1
        clear H1
        simp only [Option.some.injEq, Prod.mk.injEq] at H
        obtain ⟨rfl, rfl⟩ := H
        go_wp2
        go_ret2
        exact ⟨ae, bf HB⟩
      · replace c14 := Bool.eq_false_iff.mpr c14
        subst c14
        have H1 : (carrefourref09_Rate.l0 kj2 a1 1 0 a0_0 a0_1) = some (r1, r2) := by rw [if_neg (show ¬ (false = true) by decide)] at H; exact H
        clear H
        have H := H1
        clear H1
        have H' := Aside0.mk H
        clear H
        go_wp2
        go_loopg [6, 7] kj2 (fun kq v6 v7 w' => ∃ (x6_2 : Int) (x7_2 : Int), v6 = .int .i64 x6_2 ∧ v7 = .int .i64 x7_2 ∧ Aside0 (carrefourref09_Rate.l0 kq a1 x6_2 x7_2 a0_0 a0_1 = some (r1, r2)) ∧ Aside0 (kq ≤ kj2) ∧ Aside0 (w'.heap[gb269]? = some (.cells #[.int .i64 a0_0, .int .i64 a0_1] 23 (0, 0))) ∧ Aside0 (Below w.heap.size w w'))
        case atStart => exact ⟨(1), (0), (aq), (aq), H', ⟨Nat.le_refl _⟩, bu_ BK269, ⟨bf HB⟩⟩
        case round =>
          clear H'
          try clear c1
          try clear p2
          try clear c5
          try clear c5b0
          try clear c6
          try clear c6b0
          try clear c8
          try clear c14
          try clear hcz11
          try clear hcz12
          try clear hcz9
          try clear p2
          obtain ⟨x6_2, x7_2, rfl, rfl, HA, HK2, BK269, HB⟩ := hrel
          cases gk with
          | zero => exact absurd HA.out (by simp [carrefourref09_Rate.l0])
          | succ k2 =>
            have H := HA.out
            clear HA
            simp only [carrefourref09_Rate.l0] at H
            by_cases c15 : x7_2 < a1
            · rw [if_pos c15] at H
              have c15b0 : decide (x7_2 < a1) = true := decide_eq_true c15
              clear c15
              have H' := Aside0.mk H
              clear H
              go_wp2
              go_roundg k2
              case measure => have := HJ2.out; have := HK2.out; omega
              case rel => exact ⟨(wrap64 (x6_2 * 10)), (wrap64 (x7_2 + 1)), (aq), (aq), H', ⟨by have := HJ2.out; have := HK2.out; omega⟩, bu_ BK269, ⟨bf HB⟩⟩
            · rw [if_neg c15] at H
              have c15b0 : decide (x7_2 < a1) = false := decide_eq_false c15
              clear c15
              replace H := bi_ H; obtain ⟨⟨t271, t272⟩, A16, H⟩ := H
              (try dsimp only at H)
              by_cases c17 : t272 = 0
              · rw [if_pos c17] at H
                have c17b0 : (t272 == 0) = true := beq_iff_eq.mpr c17
                have c17b1 : (t272 != 0) = false := bne_eq_false_iff_eq.mpr c17
                clear c17
                replace H := bi_ H; obtain ⟨t273, A18, H⟩ := H
                (try dsimp only at H)
                replace H := bi_ H; obtain ⟨t276, A19, H⟩ := H
                (try dsimp only at H)
                replace H := bi_ H; obtain ⟨t279, A20, H⟩ := H
                (try dsimp only at H)
                replace H := bi_ H; obtain ⟨t282, A21, H⟩ := H
                (try dsimp only at H)
                replace H := bi_ H; obtain ⟨t285, A22, H⟩ := H
                (try dsimp only at H)
                replace H := bi_ H; obtain ⟨t288, A23, H⟩ := H
                (try dsimp only at H)
                replace H := bi_ H; obtain ⟨t291, A24, H⟩ := H
                (try dsimp only at H)
                have HC25 := Aside0.mk H
                clear H
                have hcz26 := X.k2 BK269
                try go_wp2_with (first | ((with_reducible refine gc 17 rfl ?_); refine gm_ (some 41) rfl rfl Tryd.func17 (carrefourref01_Scale.calls _ _ _ _ _ _ _ A16.out) ag ?_; intro w27 hb; replace BK269 := bb BK269 hb; replace HB := bs HB hb; (try clear hb)))
                replace BK269 := Aside0.mk (blk_drew BK269.out)
                replace HB := Aside0.mk (below_drew1 HB.out)
                refine start_ (n := 15) (S := fun w' => c_ w' gb269 0 (.int .i64 a0_0) ∧ c_ w' gb269 1 (.int .i64 a0_1)) (ds := []) (m_ 15 0) (by kernel_rfl) rfl rfl ⟨ct BK269 0, ct BK269 1⟩ (fun hHeld => ?_); refine with_tabW carrefourref09_Rate.tab11 carrefourref09_Rate.bits11 (fun HT_ HW_ => ?_)
                generalize w27.drew = w28 at BK269 HB hHeld ⊢
                refine pu_ 0 (some 47) (m_ 15 1) rfl rfl (ao HT_) ?_
                refine pu_ 3 (some 50) (m_ 15 9) rfl rfl (ao HT_) ?_
                refine pu_ 4 (some 51) (m_ 15 25) rfl rfl (ao HT_) ?_
                refine pu_ 6 (some 53) (m_ 15 89) rfl rfl (ao HT_) ?_
                refine pu_ 7 (some 54) (m_ 15 217) rfl rfl (ao HT_) ?_
                refine pu_ 8 (some 55) (m_ 15 473) rfl rfl (ao HT_) ?_
                refine tk_ 1 (some 48) (m_ 15 475) rfl rfl (tw HT_ HW_) hHeld ?_
                refine pu_ 2 (some 49) (m_ 15 479) rfl rfl (ao HT_) ?_
                refine tk_ 9 (some 56) (m_ 15 991) rfl rfl (tw HT_ HW_) hHeld ?_
                refine pu_ 10 (some 57) (m_ 15 2015) rfl rfl (ao HT_) ?_
                refine o1_ 5 (some 52) (m_ 15 2047) rfl rfl (oo HT_) (fun K hK => ?_)
                refine goes_ Tryd.func19 (by kernel_rfl) rfl #[.int .u64 (IntKind.u64.wrap (a0_0)), .int .u64 (IntKind.u64.wrap (x6_2))] (by rfl) rfl rfl ag ?_
                with_reducible refine (carrefourref01_Times.calls _ (IntKind.u64.wrap (a0_0)) (IntKind.u64.wrap (x6_2)) _ _ A18.out).mono ?_
                rintro e w29 ⟨v274, rfl, ho0, hb⟩
                refine ⟨_, rfl, ?_⟩
                have HO275 := Aside0.mk (Kd.R_lower ho0 (below_size (bf HB)))
                replace BK269 := bb BK269 hb
                replace HB := bs HB hb
                (try clear hb); (try clear ho0)
                refine hK.out _ _ ⟨ct BK269 0, ct BK269 1⟩ (fun hHeld => ?_)
                clear hK K
                refine nr_ (some 52) ?_
                refine o1_ 11 (some 58) (m_ 15 4095) rfl rfl (oo HT_) (fun K hK => ?_)
                refine goes_ Tryd.func19 (by kernel_rfl) rfl #[.int .u64 (IntKind.u64.wrap (t271)), .int .u64 (IntKind.u64.wrap (a0_1))] (by rfl) rfl rfl ag ?_
                with_reducible refine (carrefourref01_Times.calls _ (IntKind.u64.wrap (t271)) (IntKind.u64.wrap (a0_1)) _ _ A19.out).mono ?_
                rintro e w30 ⟨v277, rfl, ho0, hb⟩
                refine ⟨_, rfl, ?_⟩
                have HO278 := Aside0.mk (Kd.R_lower (Kd.R_new' ho0 (rl HO275)) (below_size (bf HB)))
                replace HO275 := re_ HO275 (Kd.R_base ho0) hb
                replace BK269 := bb BK269 hb
                replace HB := bs HB hb
                (try clear hb); (try clear ho0)
                obtain ⟨Ao31, co31, eo31⟩ := Kd.R_slice HO278.out
                (first | subst eo31 | (injection eo31 with f1_ f2_ f3_; have f4_ := f1_.symm; have f5_ := f3_.symm; clear f1_ f2_ f3_; subst f4_; subst f5_))
                refine hK.out _ _ ⟨ct BK269 0, ct BK269 1⟩ (fun hHeld => ?_)
                clear hK K
                refine nr_ (some 58) ?_
                refine o1_ 12 (some 59) (m_ 15 8191) rfl rfl (oo HT_) (fun K hK => ?_)
                refine goes_ Tryd.func20 (by kernel_rfl) rfl #[.slice Ao31 t276.length co31] (by rfl) rfl rfl ag ?_
                with_reducible refine (carrefourref09_trim.calls _ (fun k_ => some k_ = (.slice Ao31 t276.length co31 : Value).ownBlock) (.slice Ao31 t276.length co31) _ _ w _ ?side1 ?side2 A20.out).mono ?_
                (case side1 => repeat (first | (with_reducible first | exact HB.out | apply below_alloc | apply pw_below_drewN | apply below_drew1 | refine below_set ?_ GE269.out) | exact HB.out))
                (case side2 => exact Kd.R_tight rfl HO278.out)
                rintro e w32 ⟨v280, rfl, ho0, hb, hkp⟩
                refine ⟨_, rfl, ?_⟩
                have n0_ := Aside0.mk (blk_kept (bx BK269) hkp (fun hs_ => (fun e_ => (Kd.R_ne HO278.out BK269.out (by decide)) e_) hs_))
                have n1_ := Aside0.mk (Kd.R_mono (ok' := fun k_ => some k_ ≠ (v280 : Value).ownBlock) (Kd.R_keptB (HO275.out) hkp (fun k_ hk_ hs_ => (hk_.2) hs_)) (fun k_ hk_ => fun e_ => Or.elim (ho0.1 k_ e_.symm) (fun hs_ => hk_.2.1 hs_) (fun hn_ => Nat.not_le.2 hk_.2.2 hn_)))
                have n2_ := Aside0.mk (Kd.R_mono (ok' := fun k_ => some k_ ≠ (v274 : Value).ownBlock) ho0 (fun k_ hk_ => Or.elim hk_ (fun hs_ => fun e_ => (((HO275.out).1 k_ e_.symm).2) hs_) (fun hn_ => (Kd.fresh' (rl HO275) k_ hn_))))
                have n3_ := Aside0.mk (hb)
                clear BK269
                clear HO275
                clear HB
                clear HO278
                have BK269 := n0_
                have HO275 := n1_
                have HO281 := n2_
                have HB := n3_
                clear n0_ n1_ n2_ n3_
                (try clear hb); (try clear hkp); (try clear ho0)
                obtain ⟨Ao33, co33, eo33⟩ := Kd.R_slice HO275.out
                (first | subst eo33 | (injection eo33 with f1_ f2_ f3_; have f4_ := f1_.symm; have f5_ := f3_.symm; clear f1_ f2_ f3_; subst f4_; subst f5_))
                obtain ⟨Ao34, co34, eo34⟩ := Kd.R_slice HO281.out
                (first | subst eo34 | (injection eo34 with f1_ f2_ f3_; have f4_ := f1_.symm; have f5_ := f3_.symm; clear f1_ f2_ f3_; subst f4_; subst f5_))
                refine hK.out _ _ ⟨ct BK269 0, ct BK269 1⟩ (fun hHeld => ?_)
                clear hK K
                refine nr_ (some 59) ?_
                refine o1_ 13 (some 60) (m_ 15 16383) rfl rfl (oo HT_) (fun K hK => ?_)
                refine goes_ Tryd.func18 (by kernel_rfl) rfl #[.slice Ao33 t273.length co33, .slice Ao34 t279.length co34] (by rfl) rfl rfl ag ?_
                with_reducible refine (carrefourref01_Minus.calls _ _ _ _ _ _ _ _ _ ?side1 ?side2 ?side3 ?side4 A21.out).mono ?_
                (case side1 => exact rc HO275)
                (case side2 => exact (Kd.R_reads' HO275.out).2.1)
                (case side3 => exact rc HO281)
                (case side4 => exact (Kd.R_reads' HO281.out).2.1)
                rintro e w35 ⟨v283, rfl, ho0, hb⟩
                refine ⟨_, rfl, ?_⟩
                have HO284 := Aside0.mk (Kd.R_lower (Kd.R_new' (Kd.R_new' ho0 (rl HO275)) (rl HO281)) (below_size (bf HB)))
                replace HO275 := re_ HO275 (Kd.R_base ho0) hb
                replace HO281 := re_ HO281 (Kd.R_base ho0) hb
                replace BK269 := bb BK269 hb
                replace HB := bs HB hb
                (try clear hb); (try clear ho0)
                refine hK.out _ _ ⟨ct BK269 0, ct BK269 1⟩ (fun hHeld => ?_)
                clear hK K
                refine nr_ (some 60) ?_
                refine pu_ 14 (some 10) (m_ 15 32767) rfl rfl (ao HT_) ?_
                refine done_ (done_of HT_.out (by kernel_rfl)) ?_
                try go_wp2
                replace HO275 := Aside0.mk (Kd.R_drew HO275.out)
                replace HO281 := Aside0.mk (Kd.R_drew HO281.out)
                replace HO284 := Aside0.mk (Kd.R_drew HO284.out)
                replace BK269 := Aside0.mk (blk_drew BK269.out)
                replace HB := Aside0.mk (below_drew1 HB.out)
                obtain ⟨Ao37, co37, eo37⟩ := Kd.R_slice HO284.out
                (first | subst eo37 | (injection eo37 with f1_ f2_ f3_; have f4_ := f1_.symm; have f5_ := f3_.symm; clear f1_ f2_ f3_; subst f4_; subst f5_))
                refine start_ (n := 9) (S := fun w' => c_ w' gb269 0 (.int .i64 a0_0) ∧ c_ w' gb269 1 (.int .i64 a0_1)) (ds := []) (m_ 9 0) (by kernel_rfl) rfl rfl ⟨ct BK269 0, ct BK269 1⟩ (fun hHeld => ?_); refine with_tabW carrefourref09_Rate.tab12 carrefourref09_Rate.bits12 (fun HT_ HW_ => ?_)
                generalize w35.drew = w36 at HO275 HO281 HO284 BK269 HB hHeld ⊢
                refine pu_ 0 (some 61) (m_ 9 1) rfl rfl (ao HT_) ?_
                refine pu_ 1 (some 62) (m_ 9 3) rfl rfl (ao HT_) ?_
                refine pu_ 3 (some 64) (m_ 9 11) rfl rfl (ao HT_) ?_
                refine tk_ 4 (some 65) (m_ 9 27) rfl rfl (tw HT_ HW_) hHeld ?_
                refine pu_ 5 (some 66) (m_ 9 59) rfl rfl (ao HT_) ?_
                refine o1_ 2 (some 63) (m_ 9 63) rfl rfl (oo HT_) (fun K hK => ?_)
                refine goes_ Tryd.func22 (by kernel_rfl) rfl #[.slice Ao37 t282.length co37, .slice Ao37 t282.length co37] (by rfl) rfl rfl ag ?_
                with_reducible refine (carrefourref01_Plus.calls _ _ _ _ _ _ _ _ _ ?side1 ?side2 ?side3 ?side4 A22.out).mono ?_
                (case side1 => exact rc HO284)
                (case side2 => exact (Kd.R_reads' HO284.out).2.1)
                (case side3 => exact rc HO284)
                (case side4 => exact (Kd.R_reads' HO284.out).2.1)
                rintro e w38 ⟨v286, rfl, ho0, hb⟩
                refine ⟨_, rfl, ?_⟩
                have HO287 := Aside0.mk (Kd.R_lower (Kd.R_new' (Kd.R_new' (Kd.R_new' ho0 (rl HO275)) (rl HO281)) (rl HO284)) (below_size (bf HB)))
                replace HO275 := re_ HO275 (Kd.R_base ho0) hb
                replace HO281 := re_ HO281 (Kd.R_base ho0) hb
                replace HO284 := re_ HO284 (Kd.R_base ho0) hb
                replace BK269 := bb BK269 hb
                replace HB := bs HB hb
                (try clear hb); (try clear ho0)
                refine hK.out _ _ ⟨ct BK269 0, ct BK269 1⟩ (fun hHeld => ?_)
                clear hK K
                refine nr_ (some 63) ?_
                refine o1_ 6 (some 67) (m_ 9 127) rfl rfl (oo HT_) (fun K hK => ?_)
                refine goes_ Tryd.func23 (by kernel_rfl) rfl #[.int .u64 (IntKind.u64.wrap (a0_1))] (by rfl) rfl rfl ag ?_
                with_reducible refine (carrefourref01_Parts.calls _ (IntKind.u64.wrap (a0_1)) _ _ A23.out).mono ?_
                rintro e w39 ⟨v289, rfl, ho0, hb⟩
                refine ⟨_, rfl, ?_⟩
                have HO290 := Aside0.mk (Kd.R_lower (Kd.R_new' (Kd.R_new' (Kd.R_new' (Kd.R_new' ho0 (rl HO275)) (rl HO281)) (rl HO284)) (rl HO287)) (below_size (bf HB)))
                replace HO275 := re_ HO275 (Kd.R_base ho0) hb
                replace HO281 := re_ HO281 (Kd.R_base ho0) hb
                replace HO284 := re_ HO284 (Kd.R_base ho0) hb
                replace HO287 := re_ HO287 (Kd.R_base ho0) hb
                replace BK269 := bb BK269 hb
                replace HB := bs HB hb
                (try clear hb); (try clear ho0)
                obtain ⟨Ao40, co40, eo40⟩ := Kd.R_slice HO287.out
                (first | subst eo40 | (injection eo40 with f1_ f2_ f3_; have f4_ := f1_.symm; have f5_ := f3_.symm; clear f1_ f2_ f3_; subst f4_; subst f5_))
                obtain ⟨Ao41, co41, eo41⟩ := Kd.R_slice HO290.out
                (first | subst eo41 | (injection eo41 with f1_ f2_ f3_; have f4_ := f1_.symm; have f5_ := f3_.symm; clear f1_ f2_ f3_; subst f4_; subst f5_))
                refine hK.out _ _ ⟨ct BK269 0, ct BK269 1⟩ (fun hHeld => ?_)
                clear hK K
                refine nr_ (some 67) ?_
                refine o1_ 7 (some 68) (m_ 9 255) rfl rfl (oo HT_) (fun K hK => ?_)
                refine gs_ rfl Tryd.func21 (carrefourref01_Order.calls _ _ _ _ _ _ _ _ _ ?side1 ?side2 ?side3 ?side4 A24.out) ag ?_
                (case side1 => exact rc HO287)
                (case side2 => exact (Kd.R_reads' HO287.out).2.1)
                (case side3 => exact rc HO290)
                (case side4 => exact (Kd.R_reads' HO290.out).2.1)
                intro w42 hb
                replace HO275 := rb HO275 hb
                replace HO281 := rb HO281 hb
                replace HO284 := rb HO284 hb
                replace HO287 := rb HO287 hb
                replace HO290 := rb HO290 hb
                replace BK269 := bb BK269 hb
                replace HB := bs HB hb
                (try clear hb)
                refine hK.out _ _ ⟨ct BK269 0, ct BK269 1⟩ (fun hHeld => ?_)
                clear hK K
                refine nr_ (some 68) ?_
                refine pu_ 8 (some 69) (m_ 9 511) rfl rfl (ao HT_) ?_
                refine done_ (done_of HT_.out (by kernel_rfl)) ?_
                go_upto_if 69 with (fail)
                go_cut [8] (fun v8 wc => ∃ (kq : Nat) (x8_24 : Int), v8 = .int .i64 x8_24 ∧ Aside0 (carrefourref09_Rate.j2 kq a1 x8_24 = some (r1, r2)) ∧ Aside0 (kq ≤ k2) ∧ Aside0 (wc.heap[gb269]? = some (.cells #[.int .i64 a0_0, .int .i64 a0_1] 23 (0, 0))) ∧ Aside0 (Below w.heap.size w wc))
                case first =>
                  have H := HC25.out
                  clear HC25
                  by_cases c43 : t291 ≥ 0
                  · rw [if_pos c43] at H
                    have c43b0 : decide (0 ≤ t291) = true := decide_eq_true c43
                    clear c43
                    (first | rw [c43b0] | (simp only [i64_w, i32_w]; rw [c43b0]) | skip)
                    by_cases c44 : t271 = 9223372036854775807
                    · rw [if_pos c44] at H
                      have c44b0 : (t271 == 9223372036854775807) = true := beq_iff_eq.mpr c44
                      have c44b1 : (t271 != 9223372036854775807) = false := bne_eq_false_iff_eq.mpr c44
                      clear c44
                      simp only [Option.some.injEq, Prod.mk.injEq] at H
                      obtain ⟨rfl, rfl⟩ := H
                      go_wp2
                      go_ret2
                      exact ⟨ae, bf HB⟩
                    · rw [if_neg c44] at H
                      have c44b0 : (t271 == 9223372036854775807) = false := beq_eq_false_iff_ne.mpr c44
                      have c44b1 : (t271 != 9223372036854775807) = true := bne_iff_ne.mpr c44
                      have H' := Aside0.mk H
                      clear H
                      go_wp2
                      go_meet
                      case rel => exact ⟨_, (wrap64 (t271 + 1)), (aq), H', ⟨by have := HJ2.out; have := HK2.out; first | omega | exact Nat.le_refl _⟩, bu_ BK269, ⟨bf HB⟩⟩
                  · rw [if_neg c43] at H
                    have c43b0 : decide (0 ≤ t291) = false := decide_eq_false c43
                    clear c43
                    (first | rw [c43b0] | (simp only [i64_w, i32_w]; rw [c43b0]) | skip)
                    have H' := Aside0.mk H
                    clear H
                    go_wp2
                    go_meet
                    case rel => exact ⟨_, (t271), (aq), H', ⟨by have := HJ2.out; have := HK2.out; first | omega | exact Nat.le_refl _⟩, bu_ BK269, ⟨bf HB⟩⟩
                case rest =>
                  clear HC25
                  try clear c1
                  try clear c2
                  try clear p2
                  try clear c4
                  try clear c5
                  try clear c5b0
                  try clear c6
                  try clear c6b0
                  try clear p6
                  try clear c8
                  try clear c14
                  try clear c15
                  try clear c15b0
                  try clear c17
                  try clear c17b0
                  try clear c17b1
                  try clear c18
                  try clear c19
                  try clear c20
                  try clear c21
                  try clear c22
                  try clear c23
                  try clear c43
                  try clear c43b0
                  try clear c44
                  try clear c44b0
                  try clear c44b1
                  try clear hcz11
                  try clear hcz12
                  try clear hcz26
                  try clear hcz9
                  try clear p2
                  obtain ⟨kq, x8_24, rfl, HA, HJ24, BK269, HB⟩ := hcut
                  cases kq with
                  | zero => exact absurd HA.out (by simp [carrefourref09_Rate.j2])
                  | succ kj24 =>
                    have H := HA.out
                    clear HA
                    simp only [carrefourref09_Rate.j2] at H
                    replace H := bi_ H; obtain ⟨t292, A45, H⟩ := H
                    (try dsimp only at H)
                    have H' := Aside0.mk H
                    clear H
                    go_wp2_with (first | ((with_reducible refine gc 24 rfl ?_); refine gm_ (some 75) rfl rfl Tryd.func24 (carrefourref02_Digits.calls kj24 _ _ _ A45.out) ag ?_; intro w46 hb; replace BK269 := bb BK269 hb; replace HB := bs HB hb; (try clear hb)))
                    go_loopg [11] kj24 (fun kq v11 w' => ∃ (x11_4 : ByteArray), v11 = .string x11_4 ∧ Aside0 (carrefourref09_Rate.l1 kq a1 x11_4 = some (r1, r2)) ∧ Aside0 (kq ≤ kj24) ∧ Aside0 (w'.heap[gb269]? = some (.cells #[.int .i64 a0_0, .int .i64 a0_1] 23 (0, 0))) ∧ Aside0 (Below w.heap.size w w'))
                    case atStart => exact ⟨(t292), (aq), H', ⟨Nat.le_refl _⟩, bu_ BK269, ⟨bf HB⟩⟩
                    case round =>
                      clear H'
                      try clear c1
                      try clear c2
                      try clear p2
                      try clear c4
                      try clear c5
                      try clear c5b0
                      try clear c6
                      try clear c6b0
                      try clear p6
                      try clear c8
                      try clear c14
                      try clear c15
                      try clear c15b0
                      try clear c17
                      try clear c17b0
                      try clear c17b1
                      try clear c18
                      try clear c19
                      try clear c20
                      try clear c21
                      try clear c22
                      try clear c23
                      try clear c24
                      try clear c43
                      try clear c43b0
                      try clear c44
                      try clear c44b0
                      try clear c44b1
                      try clear hcz11
                      try clear hcz12
                      try clear hcz26
                      try clear hcz9
                      try clear p2
                      try clear p6
                      obtain ⟨x11_4, rfl, HA, HK4, BK269, HB⟩ := hrel
                      cases gk with
                      | zero => exact absurd HA.out (by simp [carrefourref09_Rate.l1])
                      | succ k4 =>
                        have H := HA.out
                        clear HA
                        simp only [carrefourref09_Rate.l1] at H
                        by_cases c47 : (x11_4.size : Int) ≤ a1
                        · rw [if_pos c47] at H
                          have c47b0 : decide ((x11_4.size : Int) ≤ a1) = true := decide_eq_true c47
                          clear c47
                          by_cases c48 : 1 + x11_4.size ≤ 9223372036854775807
                          · rw [if_pos c48] at H
                            have c48b0 := eq_true c48
                            have c48b1 : decide (1 + x11_4.size ≤ 9223372036854775807) = true := decide_eq_true c48
                            try have c48b2 : (9223372036854775807 < 1 + x11_4.size) = False := eq_false (Nat.not_lt.2 c48)
                            have H' := Aside0.mk H
                            clear H
                            go_wp2
                            go_roundg k4
                            case measure => have := HJ2.out; have := HK2.out; have := HJ24.out; have := HK4.out; omega
                            case rel => exact ⟨((⟨#[48]⟩ : ByteArray) ++ x11_4), (aq), H', ⟨by have := HJ2.out; have := HK2.out; have := HJ24.out; have := HK4.out; omega⟩, bu_ BK269, ⟨bf HB⟩⟩
                          · rw [if_neg c48] at H
                            exact absurd H (by simp)
                        · rw [if_neg c47] at H
                          have c47b0 : decide ((x11_4.size : Int) ≤ a1) = false := decide_eq_false c47
                          clear c47
                          by_cases c49 : a1 = 0
                          · rw [if_pos c49] at H
                            have c49b0 : (a1 == 0) = true := beq_iff_eq.mpr c49
                            have c49b1 : (a1 != 0) = false := bne_eq_false_iff_eq.mpr c49
                            clear c49
                            simp only [Option.some.injEq, Prod.mk.injEq] at H
                            obtain ⟨rfl, rfl⟩ := H
                            go_wp2
                            go_ret2
                            exact ⟨ae, bf HB⟩
                          · rw [if_neg c49] at H
                            have c49b0 : (a1 == 0) = false := beq_eq_false_iff_ne.mpr c49
                            have c49b1 : (a1 != 0) = true := bne_iff_ne.mpr c49
                            obtain ⟨ji50, hji50⟩ : ∃ j_ : Int, (wrap64 ((x11_4.size : Int) - a1)) = j_ := ⟨_, rfl⟩
                            replace H : (if 0 ≤ (ji50) then (if (ji50) ≤ (x11_4.size : Int) then (if (x11_4.extract 0 ((ji50) : Int).toNat).size + 1 ≤ 9223372036854775807 then (if ((x11_4.extract 0 ((ji50) : Int).toNat) ++ (⟨#[46]⟩ : ByteArray)).size + (x11_4.extract ((ji50) : Int).toNat x11_4.size).size ≤ 9223372036854775807 then (some (((x11_4.extract 0 ((ji50) : Int).toNat) ++ (⟨#[46]⟩ : ByteArray)) ++ (x11_4.extract ((ji50) : Int).toNat x11_4.size), 0)) else (none)) else (none)) else (none)) else (none)) = some (r1, r2) := by first | (rw [hji50] at H; exact H) | (simp only [hji50] at H ⊢; exact H)
                            have hji50w : (IntKind.i64.wrap ((x11_4.size : Int) - a1)) = ji50 := (i64_w _).trans hji50
                            by_cases c51 : 0 ≤ (ji50)
                            · rw [if_pos c51] at H
                              have c51b0 := eq_true c51
                              have c51b1 : decide (0 ≤ (ji50)) = true := decide_eq_true c51
                              clear c51
                              by_cases c52 : (ji50) ≤ (x11_4.size : Int)
                              · rw [if_pos c52] at H
                                have c52b0 := eq_true c52
                                have c52b1 : decide ((ji50) ≤ (x11_4.size : Int)) = true := decide_eq_true c52
                                clear c52
                                by_cases c53 : (x11_4.extract 0 ((ji50) : Int).toNat).size + 1 ≤ 9223372036854775807
                                · rw [if_pos c53] at H
                                  have c53b0 := eq_true c53
                                  have c53b1 : decide ((x11_4.extract 0 ((ji50) : Int).toNat).size + 1 ≤ 9223372036854775807) = true := decide_eq_true c53
                                  try have c53b2 : (9223372036854775807 < (x11_4.extract 0 ((ji50) : Int).toNat).size + 1) = False := eq_false (Nat.not_lt.2 c53)
                                  try have c53b3 : (9223372036854775807 < (ji50 : Int).toNat + 1) = False := eq_false (Nat.not_lt.2 (by have e_ := c53; have e3_ : (ji50) ≤ (x11_4.size : Int) := of_decide_eq_true (by assumption); rw [ByteArray.size_extract] at e_; omega))
                                  have c54b0 := eq_true (of_decide_eq_true (by first | (with_reducible assumption) | assumption) : 0 ≤ (ji50))
                                  have c55b0 := eq_true (of_decide_eq_true (by first | (with_reducible assumption) | assumption) : (ji50) ≤ (x11_4.size : Int))
                                  by_cases c56 : ((x11_4.extract 0 ((ji50) : Int).toNat) ++ (⟨#[46]⟩ : ByteArray)).size + (x11_4.extract ((ji50) : Int).toNat x11_4.size).size ≤ 9223372036854775807
                                  · rw [if_pos c56] at H
                                    have c56b0 := eq_true c56
                                    have c56b1 : decide (((x11_4.extract 0 ((ji50) : Int).toNat) ++ (⟨#[46]⟩ : ByteArray)).size + (x11_4.extract ((ji50) : Int).toNat x11_4.size).size ≤ 9223372036854775807) = true := decide_eq_true c56
                                    try have c56b2 : (9223372036854775807 < ((x11_4.extract 0 ((ji50) : Int).toNat) ++ (⟨#[46]⟩ : ByteArray)).size + (x11_4.extract ((ji50) : Int).toNat x11_4.size).size) = False := eq_false (Nat.not_lt.2 c56)
                                    try have c56b3 : (9223372036854775807 < (ji50 : Int).toNat + 1 + (x11_4.size - (ji50 : Int).toNat)) = False := eq_false (Nat.not_lt.2 (by have e_ := c56; have e3_ : (ji50) ≤ (x11_4.size : Int) := of_decide_eq_true (by assumption); rw [ByteArray.size_append, ByteArray.size_extract, ByteArray.size_extract] at e_; have e2_ : (⟨#[46]⟩ : ByteArray).size = 1 := rfl; omega))
                                    simp only [Option.some.injEq, Prod.mk.injEq] at H
                                    obtain ⟨rfl, rfl⟩ := H
                                    try go_wp2
                                    replace BK269 := Aside0.mk (blk_drew BK269.out)
                                    replace HB := Aside0.mk (below_drew1 HB.out)
                                    refine start_ (n := 16) (S := fun w' => True) (ds := []) (m_ 16 0) (by kernel_rfl) rfl rfl trivial (fun hHeld => ?_); refine with_tabW carrefourref09_Rate.tab21 carrefourref09_Rate.bits21 (fun HT_ HW_ => ?_)
                                    generalize wr.drew = w57 at BK269 HB hHeld ⊢
                                    refine pu_ 0 (some 85) (m_ 16 1) rfl rfl (ao HT_) ?_
                                    refine pu_ 1 (some 86) (m_ 16 3) rfl rfl (ao HT_) ?_
                                    refine pu_ 2 (some 87) (m_ 16 7) rfl rfl (ao HT_) ?_
                                    refine pu_ 3 (some 88) (m_ 16 15) rfl rfl (ao HT_) ?_
                                    refine pu_ 4 (some 89) (m_ 16 31) rfl rfl (ao HT_) ?_
                                    refine pu_ 5 (some 90) (m_ 16 63) rfl rfl (ao HT_) ?_
                                    refine pu_ 6 (some 91) (m_ 16 127) rfl rfl (ao HT_) ?_
                                    refine pu_ 7 (some 92) (m_ 16 255) rfl rfl (ao HT_) ?_
                                    refine pu_ 8 (some 93) (m_ 16 511) rfl rfl (ao HT_) ?_
                                    refine pu_ 9 (some 94) (m_ 16 1023) rfl rfl (ao HT_) ?_
                                    refine pu_ 10 (some 95) (m_ 16 2047) rfl rfl (ao HT_) ?_
                                    refine pu_ 11 (some 96) (m_ 16 4095) rfl rfl (ao HT_) ?_
                                    refine pu_ 12 (some 97) (m_ 16 8191) rfl rfl (ao HT_) ?_
                                    refine pu_ 13 (some 98) (m_ 16 16383) rfl rfl (ao HT_) ?_
                                    refine pu_ 14 (some 4) (m_ 16 32767) rfl rfl (ao HT_) ?_
                                    refine pu_ 15 (some 5) (m_ 16 65535) rfl rfl (ao HT_) ?_
                                    refine done_ (done_of HT_.out (by kernel_rfl)) ?_
                                    try go_wp2
                                    go_ret2
                                    exact ⟨by first | rfl | (simp [errW_none, errW_some] <;> rfl) | (simp only [← hji50]; first | rfl | (simp [errW_none, errW_some] <;> rfl)) | (simp [*, errW_none, errW_some] <;> rfl), bf HB⟩
                                  · rw [if_neg c56] at H
                                    exact absurd H (by simp)
                                · rw [if_neg c53] at H
                                  exact absurd H (by simp)
                              · rw [if_neg c52] at H
                                exact absurd H (by simp)
                            · rw [if_neg c51] at H
                              exact absurd H (by simp)
              · rw [if_neg c17] at H
                have c17b0 : (t272 == 0) = false := beq_eq_false_iff_ne.mpr c17
                have c17b1 : (t272 != 0) = true := bne_iff_ne.mpr c17
                simp only [Option.some.injEq, Prod.mk.injEq] at H
                obtain ⟨rfl, rfl⟩ := H
                have hcz58 := X.k2 BK269
                go_wp2_with (first | ((with_reducible refine gc 17 rfl ?_); refine gm_ (some 41) rfl rfl Tryd.func17 (carrefourref01_Scale.calls _ _ _ _ _ _ _ A16.out) ag ?_; intro w59 hb; replace HB := bs HB hb; (try clear hb)))
                go_ret2
                exact ⟨ae, bf HB⟩

end Go.Proofs.YtnocpmngpekceaaDoor.X
