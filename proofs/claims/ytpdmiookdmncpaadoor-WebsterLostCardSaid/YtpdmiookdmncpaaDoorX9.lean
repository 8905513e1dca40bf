/- Walks: each '.calls' says that the Go function comes to what its Lean function tells. Conditions: as each theorem's head says. -/
import Derived.Test.YtpdmiookdmncpaaDoorXD
import Derived.Test.YtpdmiookdmncpaaDoorX0
import Derived.Test.YtpdmiookdmncpaaDoorX2
import Derived.Test.YtpdmiookdmncpaaDoorX6
import Derived.Test.YtpdmiookdmncpaaDoorX8
namespace Go.Proofs.YtpdmiookdmncpaaDoor.X
open Go.RowKit Go.Proofs.YtpdmiookdmncpaaDoorW.PrintWords Go.Proofs.YtpdmiookdmncpaaDoorW.PrintLast Go.Proofs.YtpdmiookdmncpaaDoorW.PrintMore
attribute [local go_sem] max2_int min2_int max_two min_two max_three min_three max_four min_four   -- for this text's walks alone
set_option linter.unusedVariables false
set_option maxHeartbeats 8000000
set_option maxRecDepth 100000
set_option linter.unusedSimpArgs false

/-! ### webster_Cycle: function 10 -/
theorem webster_Cycle.calls (k : Nat) (a0 : Int) (a1_0 : Int) (a1_1 : Int) (r1 : Int) (r2 : Bool) (r3 : Int) (w : World) (h : webster_Cycle.f k a0 a1_0 a1_1 = some (r1, r2, r3)) (hT : TabOK w) :
    Calls Tryd.prog 10 #[.int .i64 a0, .agg #[.int .i64 a1_0, .int .i64 a1_1]] w fun e w' => e = .returned (.tuple #[.int .i64 r1, .bool r2, .int .i64 r3]) ∧ Below w.heap.size w w' := by
  have GT := Aside0.mk hT
  clear hT
  have hu23 := Tryd.underlying23
  have HB := Aside0.mk (Below.refl w.heap.size w)
  have H : (if a0 < 0 then (webster_Cycle.j0 k a0 true a1_0 a1_1) else (if a0 > 600000 then (webster_Cycle.j0 k a0 true a1_0 a1_1) else ((frac_Right.f k a1_0 a1_1).bind fun t245 => (if t245 = true then (webster_Cycle.j0 k a0 (decide (a1_0 < 0)) a1_0 a1_1) else (webster_Cycle.j0 k a0 true a1_0 a1_1))))) = some (r1, r2, r3) := h
  clear h
  have HC3 := Aside0.mk H
  clear H
  go_enter Tryd.func10, Tryd.ntmps10
  go_upto_region 1 with (first | ((with_reducible refine gd 3 rfl ?_); refine bx_ 3 23 #[.int .i64 a1_0, .int .i64 a1_1] rfl rfl ?_; intro gb244 hg w4 BK244 hb; have GE244 := bz HB hg; replace HB := bs HB hb; clear hb hg))
  (try simp only [Act.put, si, s0, s1])
  go_cut [26] (fun v26 wc => ∃ (kq : Nat) (x26_2 : Bool), v26 = .bool x26_2 ∧ Aside0 (webster_Cycle.j0 kq a0 x26_2 a1_0 a1_1 = some (r1, r2, r3)) ∧ Aside0 (kq ≤ k) ∧ Aside0 (wc.heap[gb244]? = some (.cells #[.int .i64 a1_0, .int .i64 a1_1] 23 (0, 0))) ∧ Aside0 (Below w.heap.size w wc))
  case first =>
    have H := HC3.out
    clear HC3
    by_cases c5 : a0 < 0
    · rw [if_pos c5] at H
      have c5b0 : decide (a0 < 0) = true := decide_eq_true c5
      clear c5
      (first | rw [c5b0] | (simp only [i64_w, i32_w]; rw [c5b0]) | skip)
      have H' := Aside0.mk H
      clear H
      go_wp2
      go_meet
      case rel => exact ⟨_, (true), (aq), H', ⟨by first | omega | exact Nat.le_refl _⟩, bu_ BK244, ⟨bf HB⟩⟩
    · rw [if_neg c5] at H
      have c5b0 : decide (a0 < 0) = false := decide_eq_false c5
      clear c5
      (first | rw [c5b0] | (simp only [i64_w, i32_w]; rw [c5b0]) | skip)
      by_cases c6 : a0 > 600000
      · rw [if_pos c6] at H
        have c6b0 : decide (600000 < a0) = true := decide_eq_true c6
        clear c6
        have H' := Aside0.mk H
        clear H
        go_wp2
        go_meet
        case rel => exact ⟨_, (true), (aq), H', ⟨by first | omega | exact Nat.le_refl _⟩, bu_ BK244, ⟨bf HB⟩⟩
      · rw [if_neg c6] at H
        have c6b0 : decide (600000 < a0) = false := decide_eq_false c6
        clear c6
        replace H := bi_ H; obtain ⟨t245, A7, H⟩ := H
        (try dsimp only at H)
        by_cases c8 : t245 = true
        · subst c8
          have H1 : (webster_Cycle.j0 k a0 (decide (a1_0 < 0)) a1_0 a1_1) = some (r1, r2, r3) := by rw [if_pos rfl] at H; exact H
          clear H
          have H := H1
          clear H1
          have H' := Aside0.mk H
          clear H
          have hcz9 := k2 BK244
          go_wp2_with (first | (go_at_call 33; (with_reducible refine (frac_Right.calls _ _ _ _ _ A7.out (tt GT)).mono ?_); rintro e w10 ⟨rfl, hb⟩; replace BK244 := bb BK244 hb; replace HB := bs HB hb; (try clear hb); have hcz11 := k2 BK244))
          go_meet
          case rel => exact ⟨_, (decide (a1_0 < 0)), (aq), H', ⟨by first | omega | exact Nat.le_refl _⟩, bu_ BK244, ⟨bf HB⟩⟩
        · replace c8 := Bool.eq_false_iff.mpr c8
          subst c8
          have H1 : (webster_Cycle.j0 k a0 true a1_0 a1_1) = some (r1, r2, r3) := by rw [if_neg (show ¬ (false = true) by decide)] at H; exact H
          clear H
          have H := H1
          clear H1
          have H' := Aside0.mk H
          clear H
          have hcz12 := k2 BK244
          go_wp2_with (first | (go_at_call 33; (with_reducible refine (frac_Right.calls _ _ _ _ _ A7.out (tt GT)).mono ?_); rintro e w13 ⟨rfl, hb⟩; replace BK244 := bb BK244 hb; replace HB := bs HB hb; (try clear hb)))
          go_meet
          case rel => exact ⟨_, (true), (aq), H', ⟨by first | omega | exact Nat.le_refl _⟩, bu_ BK244, ⟨bf HB⟩⟩
  case rest =>
    clear HC3
    try clear c1
    try clear p2
    try clear c5
    try clear c5b0
    try clear c6
    try clear c6b0
    try clear c8
    try clear c10
    try clear hcz11
    try clear hcz12
    try clear hcz9
    obtain ⟨kq, x26_2, rfl, HA, HJ2, BK244, HB⟩ := hcut
    cases kq with
    | zero => exact absurd HA.out (by simp [webster_Cycle.j0])
    | succ kj2 =>
      have H := HA.out
      clear HA
      simp only [webster_Cycle.j0] at H
      by_cases c14 : x26_2 = true
      · subst c14
        have H1 : (some (0, false, 1)) = some (r1, r2, r3) := by rw [if_pos rfl] at H; exact H
        clear H
        have H := H1
        clear H1
        simp only [Option.some.injEq, Prod.mk.injEq] at H
        obtain ⟨rfl, rfl, rfl⟩ := H
        go_wp2
        go_ret3
        exact ⟨ae, bf HB⟩
      · replace c14 := Bool.eq_false_iff.mpr c14
        subst c14
        have H1 : (if a1_0 ≥ a1_1 then (some (0, false, 0)) else ((frac_Of.f kj2 (wrap64 (a1_1 - a1_0)) a1_1).bind fun bt246 => (if bt246.2.2 = 0 then ((frac_Of.f kj2 (wrap64 ((wrap64 (3 * a0)) + 100)) 2).bind fun bt250 => (if bt250.2.2 = 0 then ((frac_Div.f kj2 bt250.1 bt250.2.1 bt246.1 bt246.2.1).bind fun bt254 => (if bt254.2.2 = 0 then ((frac_Ceil.f kj2 bt254.1 bt254.2.1).bind fun t258 => (some (t258, true, 0))) else (some (0, false, bt254.2.2)))) else (some (0, false, bt250.2.2)))) else (some (0, false, bt246.2.2))))) = some (r1, r2, r3) := by rw [if_neg (show ¬ (false = true) by decide)] at H; exact H
        clear H
        have H := H1
        clear H1
        by_cases c15 : a1_0 ≥ a1_1
        · rw [if_pos c15] at H
          have c15b0 : decide (a1_1 ≤ a1_0) = true := decide_eq_true c15
          clear c15
          simp only [Option.some.injEq, Prod.mk.injEq] at H
          obtain ⟨rfl, rfl, rfl⟩ := H
          have hcz16 := k2 BK244
          go_wp2
          go_ret3
          exact ⟨ae, bf HB⟩
        · rw [if_neg c15] at H
          have c15b0 : decide (a1_1 ≤ a1_0) = false := decide_eq_false c15
          clear c15
          replace H := bi_ H; obtain ⟨⟨t246, t247, t248⟩, A17, H⟩ := H
          (try dsimp only at H)
          by_cases c18 : t248 = 0
          · rw [if_pos c18] at H
            have c18b0 : (t248 == 0) = true := beq_iff_eq.mpr c18
            have c18b1 : (t248 != 0) = false := bne_eq_false_iff_eq.mpr c18
            clear c18
            replace H := bi_ H; obtain ⟨⟨t250, t251, t252⟩, A19, H⟩ := H
            (try dsimp only at H)
            by_cases c20 : t252 = 0
            · rw [if_pos c20] at H
              have c20b0 : (t252 == 0) = true := beq_iff_eq.mpr c20
              have c20b1 : (t252 != 0) = false := bne_eq_false_iff_eq.mpr c20
              clear c20
              replace H := bi_ H; obtain ⟨⟨t254, t255, t256⟩, A21, H⟩ := H
              (try dsimp only at H)
              by_cases c22 : t256 = 0
              · rw [if_pos c22] at H
                have c22b0 : (t256 == 0) = true := beq_iff_eq.mpr c22
                have c22b1 : (t256 != 0) = false := bne_eq_false_iff_eq.mpr c22
                clear c22
                replace H := bi_ H; obtain ⟨t258, A23, H⟩ := H
                (try dsimp only at H)
                simp only [Option.some.injEq, Prod.mk.injEq] at H
                obtain ⟨rfl, rfl, rfl⟩ := H
                have hcz24 := k2 BK244
                go_wp2_with (first | ((with_reducible refine gc 34 rfl ?_); refine gm_ (some 40) rfl rfl Tryd.func34 (frac_Of.calls kj2 (wrap64 (a1_1 - a1_0)) _ _ _ _ _ A17.out (tt GT)) ag ?_; intro w25 hb; replace BK244 := bb BK244 hb; replace HB := bs HB hb; (try clear hb)) | ((with_reducible refine gd 7 rfl ?_); refine bx_ 7 23 #[.int .i64 0, .int .i64 0] rfl rfl ?_; intro gb249 hg w26 BK249 hb; have GE249 := bz HB hg; have ⟨NB244_249, NB249_244⟩ := nb BK244 hg; replace BK244 := bb BK244 hb; replace HB := bs HB hb; clear hb hg; have hnb27 := nn NB249_244; have hcz28 := k2 BK249) | ((with_reducible refine gc 34 rfl ?_); refine gm_ (some 50) rfl rfl Tryd.func34 (frac_Of.calls kj2 (wrap64 ((wrap64 (3 * a0)) + 100)) _ _ _ _ _ A19.out (tt GT)) ag ?_; intro w29 hb; replace BK244 := bb BK244 hb; replace BK249 := bp_ #[.int .i64 t246, .int .i64 t247] BK249 hb; replace HB := bs HB hb; (try clear hb)) | ((with_reducible refine gd 9 rfl ?_); refine bx_ 9 23 #[.int .i64 0, .int .i64 0] rfl rfl ?_; intro gb253 hg w30 BK253 hb; have GE253 := bz HB hg; have ⟨NB244_253, NB253_244⟩ := nb BK244 hg; have ⟨NB249_253, NB253_249⟩ := nb BK249 hg; replace BK244 := bb BK244 hb; replace BK249 := bb BK249 hb; replace HB := bs HB hb; clear hb hg; have hnb31 := nn NB253_244; have hnb32 := nn NB253_249; have hcz33 := k2 BK253; have hcz34 := k2 BK249) | ((with_reducible refine gc 35 rfl ?_); refine gm_ (some 59) rfl rfl Tryd.func35 (frac_Div.calls kj2 _ _ _ _ _ _ _ _ A21.out (tt GT)) ag ?_; intro w35 hb; replace BK244 := bb BK244 hb; replace BK249 := bb BK249 hb; replace BK253 := bp_ #[.int .i64 t250, .int .i64 t251] BK253 hb; replace HB := bs HB hb; (try clear hb)) | ((with_reducible refine gd 10 rfl ?_); refine bx_ 10 23 #[.int .i64 0, .int .i64 0] rfl rfl ?_; intro gb257 hg w36 BK257 hb; have GE257 := bz HB hg; have ⟨NB244_257, NB257_244⟩ := nb BK244 hg; have ⟨NB249_257, NB257_249⟩ := nb BK249 hg; have ⟨NB253_257, NB257_253⟩ := nb BK253 hg; replace BK244 := bb BK244 hb; replace HB := bs HB hb; clear hb hg; have hnb37 := nn NB257_244; have hnb38 := nn NB257_249; have hnb39 := nn NB257_253; have hcz40 := k2 BK257) | ((with_reducible refine gc 36 rfl ?_); refine gm_ (some 66) rfl rfl Tryd.func36 (frac_Ceil.calls kj2 _ _ _ _ A23.out (tt GT)) ag ?_; intro w41 hb; replace BK244 := bb BK244 hb; replace BK257 := bp_ #[.int .i64 t254, .int .i64 t255] BK257 hb; replace HB := bs HB hb; (try clear hb)))
                go_ret3
                exact ⟨ae, bf HB⟩
              · rw [if_neg c22] at H
                have c22b0 : (t256 == 0) = false := beq_eq_false_iff_ne.mpr c22
                have c22b1 : (t256 != 0) = true := bne_iff_ne.mpr c22
                simp only [Option.some.injEq, Prod.mk.injEq] at H
                obtain ⟨rfl, rfl, rfl⟩ := H
                have hcz42 := k2 BK244
                go_wp2_with (first | ((with_reducible refine gc 34 rfl ?_); refine gm_ (some 40) rfl rfl Tryd.func34 (frac_Of.calls kj2 (wrap64 (a1_1 - a1_0)) _ _ _ _ _ A17.out (tt GT)) ag ?_; intro w43 hb; replace BK244 := bb BK244 hb; replace HB := bs HB hb; (try clear hb)) | ((with_reducible refine gd 7 rfl ?_); refine bx_ 7 23 #[.int .i64 0, .int .i64 0] rfl rfl ?_; intro gb249 hg w44 BK249 hb; have GE249 := bz HB hg; have ⟨NB244_249, NB249_244⟩ := nb BK244 hg; replace BK244 := bb BK244 hb; replace HB := bs HB hb; clear hb hg; have hnb45 := nn NB249_244; have hcz46 := k2 BK249) | ((with_reducible refine gc 34 rfl ?_); refine gm_ (some 50) rfl rfl Tryd.func34 (frac_Of.calls kj2 (wrap64 ((wrap64 (3 * a0)) + 100)) _ _ _ _ _ A19.out (tt GT)) ag ?_; intro w47 hb; replace BK244 := bb BK244 hb; replace BK249 := bp_ #[.int .i64 t246, .int .i64 t247] BK249 hb; replace HB := bs HB hb; (try clear hb)) | ((with_reducible refine gd 9 rfl ?_); refine bx_ 9 23 #[.int .i64 0, .int .i64 0] rfl rfl ?_; intro gb253 hg w48 BK253 hb; have GE253 := bz HB hg; have ⟨NB244_253, NB253_244⟩ := nb BK244 hg; have ⟨NB249_253, NB253_249⟩ := nb BK249 hg; replace BK244 := bb BK244 hb; replace BK249 := bb BK249 hb; replace HB := bs HB hb; clear hb hg; have hnb49 := nn NB253_244; have hnb50 := nn NB253_249; have hcz51 := k2 BK253; have hcz52 := k2 BK249) | ((with_reducible refine gc 35 rfl ?_); refine gm_ (some 59) rfl rfl Tryd.func35 (frac_Div.calls kj2 _ _ _ _ _ _ _ _ A21.out (tt GT)) ag ?_; intro w53 hb; replace BK244 := bb BK244 hb; replace BK249 := bb BK249 hb; replace BK253 := bp_ #[.int .i64 t250, .int .i64 t251] BK253 hb; replace HB := bs HB hb; (try clear hb)) | ((with_reducible refine gd 10 rfl ?_); refine bx_ 10 23 #[.int .i64 0, .int .i64 0] rfl rfl ?_; intro gb257 hg w54 BK257 hb; have GE257 := bz HB hg; have ⟨NB244_257, NB257_244⟩ := nb BK244 hg; have ⟨NB249_257, NB257_249⟩ := nb BK249 hg; have ⟨NB253_257, NB257_253⟩ := nb BK253 hg; replace BK244 := bb BK244 hb; replace HB := bs HB hb; clear hb hg; have hnb55 := nn NB257_244; have hnb56 := nn NB257_249; have hnb57 := nn NB257_253; have hcz58 := k2 BK257))
                go_ret3
                exact ⟨ae, bf HB⟩
            · rw [if_neg c20] at H
              have c20b0 : (t252 == 0) = false := beq_eq_false_iff_ne.mpr c20
              have c20b1 : (t252 != 0) = true := bne_iff_ne.mpr c20
              simp only [Option.some.injEq, Prod.mk.injEq] at H
              obtain ⟨rfl, rfl, rfl⟩ := H
              have hcz59 := k2 BK244
              go_wp2_with (first | ((with_reducible refine gc 34 rfl ?_); refine gm_ (some 40) rfl rfl Tryd.func34 (frac_Of.calls kj2 (wrap64 (a1_1 - a1_0)) _ _ _ _ _ A17.out (tt GT)) ag ?_; intro w60 hb; replace BK244 := bb BK244 hb; replace HB := bs HB hb; (try clear hb)) | ((with_reducible refine gd 7 rfl ?_); refine bx_ 7 23 #[.int .i64 0, .int .i64 0] rfl rfl ?_; intro gb249 hg w61 BK249 hb; have GE249 := bz HB hg; have ⟨NB244_249, NB249_244⟩ := nb BK244 hg; replace BK244 := bb BK244 hb; replace HB := bs HB hb; clear hb hg; have hnb62 := nn NB249_244; have hcz63 := k2 BK249) | ((with_reducible refine gc 34 rfl ?_); refine gm_ (some 50) rfl rfl Tryd.func34 (frac_Of.calls kj2 (wrap64 ((wrap64 (3 * a0)) + 100)) _ _ _ _ _ A19.out (tt GT)) ag ?_; intro w64 hb; replace BK244 := bb BK244 hb; replace BK249 := bp_ #[.int .i64 t246, .int .i64 t247] BK249 hb; replace HB := bs HB hb; (try clear hb)) | ((with_reducible refine gd 9 rfl ?_); refine bx_ 9 23 #[.int .i64 0, .int .i64 0] rfl rfl ?_; intro gb253 hg w65 BK253 hb; have GE253 := bz HB hg; have ⟨NB244_253, NB253_244⟩ := nb BK244 hg; have ⟨NB249_253, NB253_249⟩ := nb BK249 hg; replace BK244 := bb BK244 hb; replace HB := bs HB hb; clear hb hg; have hnb66 := nn NB253_244; have hnb67 := nn NB253_249; have hcz68 := k2 BK253))
              go_ret3
              exact ⟨ae, bf HB⟩
          · rw [if_neg c18] at H
            have c18b0 : (t248 == 0) = false := beq_eq_false_iff_ne.mpr c18
            have c18b1 : (t248 != 0) = true := bne_iff_ne.mpr c18
            simp only [Option.some.injEq, Prod.mk.injEq] at H
            obtain ⟨rfl, rfl, rfl⟩ := H
            have hcz69 := k2 BK244
            go_wp2_with (first | ((with_reducible refine gc 34 rfl ?_); refine gm_ (some 40) rfl rfl Tryd.func34 (frac_Of.calls kj2 (wrap64 (a1_1 - a1_0)) _ _ _ _ _ A17.out (tt GT)) ag ?_; intro w70 hb; replace BK244 := bb BK244 hb; replace HB := bs HB hb; (try clear hb)) | ((with_reducible refine gd 7 rfl ?_); refine bx_ 7 23 #[.int .i64 0, .int .i64 0] rfl rfl ?_; intro gb249 hg w71 BK249 hb; have GE249 := bz HB hg; have ⟨NB244_249, NB249_244⟩ := nb BK244 hg; replace HB := bs HB hb; clear hb hg; have hnb72 := nn NB249_244; have hcz73 := k2 BK249))
            go_ret3
            exact ⟨ae, bf HB⟩

/-! ### webster_right: function 40 -/
theorem webster_right.calls (a0_0 : Int) (a0_1 : Int) (a0_2 : Int) (a0_3 : Int) (a0_4 : Int) (A0_5 : Option Addr) (c0_5 : Nat) (l0_5 : List (S55)) (A0_6 : Option Addr) (c0_6 : Nat) (l0_6 : List (S120)) (a0_7 : Int) (a0_8 : Int) (r : Bool) (w : World) (hr0_5 : Kd.C k55 w A0_5 l0_5.length l0_5) (hc0_5 : l0_5.length ≤ c0_5) (hr0_6 : Kd.C k120 w A0_6 l0_6.length l0_6) (hc0_6 : l0_6.length ≤ c0_6) (h : webster_right.f a0_0 a0_1 a0_2 a0_3 a0_4 l0_5 l0_6 a0_7 a0_8 = some r) :
    Calls Tryd.prog 40 #[.agg #[.int .i64 a0_0, .int .i64 a0_1, .int .i64 a0_2, .int .i64 a0_3, .int .i64 a0_4, .slice A0_5 l0_5.length c0_5, .slice A0_6 l0_6.length c0_6, .int .i64 a0_7, .int .i64 a0_8]] w fun e w' => e = .returned (.bool r) ∧ Below w.heap.size w w' := by
  have hu32 := Tryd.underlying32
  have HR0_5 := Aside0.mk hr0_5
  have HC0_5 := Aside0.mk hc0_5
  clear hr0_5 hc0_5
  have HR0_6 := Aside0.mk hr0_6
  have HC0_6 := Aside0.mk hc0_6
  clear hr0_6 hc0_6
  have HB := Aside0.mk (Below.refl w.heap.size w)
  have H : (if 1 ≤ a0_0 then (if a0_0 ≤ a0_1 then (if a0_1 ≤ 6000 then (some (decide (a0_2 ≥ 1))) else (some false)) else (some false)) else (some false)) = some r := h
  clear h
  by_cases c2 : 1 ≤ a0_0
  · rw [if_pos c2] at H
    have c2b0 : decide (1 ≤ a0_0) = true := decide_eq_true c2
    clear c2
    by_cases c3 : a0_0 ≤ a0_1
    · rw [if_pos c3] at H
      have c3b0 : decide (a0_0 ≤ a0_1) = true := decide_eq_true c3
      clear c3
      by_cases c4 : a0_1 ≤ 6000
      · rw [if_pos c4] at H
        have c4b0 : decide (a0_1 ≤ 6000) = true := decide_eq_true c4
        clear c4
        obtain rfl := Option.some.inj H
        go_enter Tryd.func40, Tryd.ntmps40
        go_wp2_with (first | ((with_reducible refine gd 1 rfl ?_); refine bx_ 1 32 #[.int .i64 a0_0, .int .i64 a0_1, .int .i64 a0_2, .int .i64 a0_3, .int .i64 a0_4, .slice A0_5 l0_5.length c0_5, .slice A0_6 l0_6.length c0_6, .int .i64 a0_7, .int .i64 a0_8] rfl rfl ?_; intro gb259 hg w5 BK259 hb; have GE259 := bz HB hg; replace HB := bs HB hb; clear hb hg; have hcz6 := k9 BK259))
        go_ret
        exact ⟨ae, bf HB⟩
      · rw [if_neg c4] at H
        have c4b0 : decide (a0_1 ≤ 6000) = false := decide_eq_false c4
        clear c4
        obtain rfl := Option.some.inj H
        go_enter Tryd.func40, Tryd.ntmps40
        go_wp2_with (first | ((with_reducible refine gd 1 rfl ?_); refine bx_ 1 32 #[.int .i64 a0_0, .int .i64 a0_1, .int .i64 a0_2, .int .i64 a0_3, .int .i64 a0_4, .slice A0_5 l0_5.length c0_5, .slice A0_6 l0_6.length c0_6, .int .i64 a0_7, .int .i64 a0_8] rfl rfl ?_; intro gb259 hg w7 BK259 hb; have GE259 := bz HB hg; replace HB := bs HB hb; clear hb hg; have hcz8 := k9 BK259))
        go_ret
        exact ⟨ae, bf HB⟩
    · rw [if_neg c3] at H
      have c3b0 : decide (a0_0 ≤ a0_1) = false := decide_eq_false c3
      clear c3
      obtain rfl := Option.some.inj H
      go_enter Tryd.func40, Tryd.ntmps40
      go_wp2_with (first | ((with_reducible refine gd 1 rfl ?_); refine bx_ 1 32 #[.int .i64 a0_0, .int .i64 a0_1, .int .i64 a0_2, .int .i64 a0_3, .int .i64 a0_4, .slice A0_5 l0_5.length c0_5, .slice A0_6 l0_6.length c0_6, .int .i64 a0_7, .int .i64 a0_8] rfl rfl ?_; intro gb259 hg w9 BK259 hb; have GE259 := bz HB hg; replace HB := bs HB hb; clear hb hg; have hcz10 := k9 BK259))
      go_ret
      exact ⟨ae, bf HB⟩
  · rw [if_neg c2] at H
    have c2b0 : decide (1 ≤ a0_0) = false := decide_eq_false c2
    clear c2
    obtain rfl := Option.some.inj H
    go_enter Tryd.func40, Tryd.ntmps40
    go_wp2_with (first | ((with_reducible refine gd 1 rfl ?_); refine bx_ 1 32 #[.int .i64 a0_0, .int .i64 a0_1, .int .i64 a0_2, .int .i64 a0_3, .int .i64 a0_4, .slice A0_5 l0_5.length c0_5, .slice A0_6 l0_6.length c0_6, .int .i64 a0_7, .int .i64 a0_8] rfl rfl ?_; intro gb259 hg w11 BK259 hb; have GE259 := bz HB hg; replace HB := bs HB hb; clear hb hg; have hcz12 := k9 BK259))
    go_ret
    exact ⟨ae, bf HB⟩

/-! ### webster_Count: function 15 -/
theorem webster_Count.calls (a0_0 : Int) (a0_1 : Int) (a0_2 : Int) (a0_3 : Int) (a0_4 : Int) (A0_5 : Option Addr) (c0_5 : Nat) (l0_5 : List (S55)) (A0_6 : Option Addr) (c0_6 : Nat) (l0_6 : List (S120)) (a0_7 : Int) (a0_8 : Int) (r : Int) (w : World) (hr0_5 : Kd.C k55 w A0_5 l0_5.length l0_5) (hc0_5 : l0_5.length ≤ c0_5) (hr0_6 : Kd.C k120 w A0_6 l0_6.length l0_6) (hc0_6 : l0_6.length ≤ c0_6) (h : webster_Count.f a0_0 a0_1 a0_2 a0_3 a0_4 l0_5 l0_6 a0_7 a0_8 = some r) :
    Calls Tryd.prog 15 #[.agg #[.int .i64 a0_0, .int .i64 a0_1, .int .i64 a0_2, .int .i64 a0_3, .int .i64 a0_4, .slice A0_5 l0_5.length c0_5, .slice A0_6 l0_6.length c0_6, .int .i64 a0_7, .int .i64 a0_8]] w fun e w' => e = .returned (.int .i64 r) ∧ Below w.heap.size w w' := by
  have hu32 := Tryd.underlying32
  have HR0_5 := Aside0.mk hr0_5
  have HC0_5 := Aside0.mk hc0_5
  clear hr0_5 hc0_5
  have HR0_6 := Aside0.mk hr0_6
  have HC0_6 := Aside0.mk hc0_6
  clear hr0_6 hc0_6
  have HB := Aside0.mk (Below.refl w.heap.size w)
  have H : ((webster_right.f a0_0 a0_1 a0_2 a0_3 a0_4 l0_5 l0_6 a0_7 a0_8).bind fun t261 => (if t261 = true then (if a0_2 = 0 then (none) else (some (wrap64 ((wrap64 (Int.tdiv (wrap64 (a0_1 - a0_0)) a0_2)) + 1)))) else (some 0))) = some r := h
  clear h
  replace H := bi_ H; obtain ⟨t261, A2, H⟩ := H
  (try dsimp only at H)
  by_cases c3 : t261 = true
  · subst c3
    have H1 : (if a0_2 = 0 then (none) else (some (wrap64 ((wrap64 (Int.tdiv (wrap64 (a0_1 - a0_0)) a0_2)) + 1)))) = some r := by rw [if_pos rfl] at H; exact H
    clear H
    have H := H1
    clear H1
    by_cases c4 : a0_2 = 0
    · rw [if_pos c4] at H
      exact absurd H (by simp)
    · rw [if_neg c4] at H
      have c4b0 : (a0_2 == 0) = false := beq_eq_false_iff_ne.mpr c4
      have c4b1 : (a0_2 != 0) = true := bne_iff_ne.mpr c4
      obtain rfl := Option.some.inj H
      go_enter Tryd.func15, Tryd.ntmps15
      go_wp2_with (first | ((with_reducible refine gd 1 rfl ?_); refine bx_ 1 32 #[.int .i64 a0_0, .int .i64 a0_1, .int .i64 a0_2, .int .i64 a0_3, .int .i64 a0_4, .slice A0_5 l0_5.length c0_5, .slice A0_6 l0_6.length c0_6, .int .i64 a0_7, .int .i64 a0_8] rfl rfl ?_; intro gb260 hg w5 BK260 hb; have GE260 := bz HB hg; replace HB := bs HB hb; clear hb hg; have hcz6 := k9 BK260) | ((with_reducible refine gc 40 rfl ?_); refine gm_ (some 4) rfl rfl Tryd.func40 (webster_right.calls _ _ _ _ _ _ _ _ _ _ _ _ _ _ _ ?side1 ?side2 ?side3 ?side4 A2.out) ag ?_; (case side1 => repeat (first | exact (Kd.C_below HR0_5.out HB.out) | (with_reducible refine Kd.C_alloc ?_ _) | (with_reducible refine Kd.C_drewN ?_ _) | (with_reducible refine Kd.C_drew ?_))); (case side2 => exact HC0_5.out); (case side3 => repeat (first | exact (Kd.C_below HR0_6.out HB.out) | (with_reducible refine Kd.C_alloc ?_ _) | (with_reducible refine Kd.C_drewN ?_ _) | (with_reducible refine Kd.C_drew ?_))); (case side4 => exact HC0_6.out); intro w7 hb; replace BK260 := bb BK260 hb; replace HB := bs HB hb; (try clear hb); have hcz8 := k9 BK260))
      go_ret
      exact ⟨ae, bf HB⟩
  · replace c3 := Bool.eq_false_iff.mpr c3
    subst c3
    have H1 : (some 0) = some r := by rw [if_neg (show ¬ (false = true) by decide)] at H; exact H
    clear H
    have H := H1
    clear H1
    obtain rfl := Option.some.inj H
    go_enter Tryd.func15, Tryd.ntmps15
    go_wp2_with (first | ((with_reducible refine gd 1 rfl ?_); refine bx_ 1 32 #[.int .i64 a0_0, .int .i64 a0_1, .int .i64 a0_2, .int .i64 a0_3, .int .i64 a0_4, .slice A0_5 l0_5.length c0_5, .slice A0_6 l0_6.length c0_6, .int .i64 a0_7, .int .i64 a0_8] rfl rfl ?_; intro gb260 hg w9 BK260 hb; have GE260 := bz HB hg; replace HB := bs HB hb; clear hb hg; have hcz10 := k9 BK260) | ((with_reducible refine gc 40 rfl ?_); refine gm_ (some 4) rfl rfl Tryd.func40 (webster_right.calls _ _ _ _ _ _ _ _ _ _ _ _ _ _ _ ?side1 ?side2 ?side3 ?side4 A2.out) ag ?_; (case side1 => repeat (first | exact (Kd.C_below HR0_5.out HB.out) | (with_reducible refine Kd.C_alloc ?_ _) | (with_reducible refine Kd.C_drewN ?_ _) | (with_reducible refine Kd.C_drew ?_))); (case side2 => exact HC0_5.out); (case side3 => repeat (first | exact (Kd.C_below HR0_6.out HB.out) | (with_reducible refine Kd.C_alloc ?_ _) | (with_reducible refine Kd.C_drewN ?_ _) | (with_reducible refine Kd.C_drew ?_))); (case side4 => exact HC0_6.out); intro w11 hb; replace HB := bs HB hb; (try clear hb)))
    go_ret
    exact ⟨ae, bf HB⟩

/-! ### webster_Allowed: function 13 -/
def webster_Allowed.T3 : Bool × List (List Nat × List Nat) := (true, [([], []), ([0], [0]), ([], []), ([2], [2]), ([3], [3]), ([], []), ([5], [5]), ([4, 6], [4, 6]), ([1, 7], [1, 7]), ([8, 3, 0, 1, 2, 3, 4, 5, 6, 7, 8], [8])])
def webster_Allowed.B3 : List Nat := [0, 1, 0, 4, 12, 0, 32, 124, 255, 511]
theorem webster_Allowed.tab3 : rtab .any (opsOf Tryd.f13 3) = webster_Allowed.T3 := by kernel_rfl
theorem webster_Allowed.bits3 : waitsOk webster_Allowed.T3.2 webster_Allowed.B3 = true := by kernel_rfl
theorem webster_Allowed.calls (a0_0 : Int) (a0_1 : Int) (a0_2 : Int) (a0_3 : Int) (a0_4 : Int) (A0_5 : Option Addr) (c0_5 : Nat) (l0_5 : List (S55)) (A0_6 : Option Addr) (c0_6 : Nat) (l0_6 : List (S120)) (a0_7 : Int) (a0_8 : Int) (a1 : Int) (r1 : Int) (r2 : Bool) (w : World) (hr0_5 : Kd.C k55 w A0_5 l0_5.length l0_5) (hc0_5 : l0_5.length ≤ c0_5) (hr0_6 : Kd.C k120 w A0_6 l0_6.length l0_6) (hc0_6 : l0_6.length ≤ c0_6) (h : webster_Allowed.f a0_0 a0_1 a0_2 a0_3 a0_4 l0_5 l0_6 a0_7 a0_8 a1 = some (r1, r2)) :
    Calls Tryd.prog 13 #[.agg #[.int .i64 a0_0, .int .i64 a0_1, .int .i64 a0_2, .int .i64 a0_3, .int .i64 a0_4, .slice A0_5 l0_5.length c0_5, .slice A0_6 l0_6.length c0_6, .int .i64 a0_7, .int .i64 a0_8], .int .i64 a1] w fun e w' => e = .returned (.tuple #[.int .i64 r1, .bool r2]) ∧ Below w.heap.size w w' := by
  have hu32 := Tryd.underlying32
  have HR0_5 := Aside0.mk hr0_5
  have HC0_5 := Aside0.mk hc0_5
  clear hr0_5 hc0_5
  have HR0_6 := Aside0.mk hr0_6
  have HC0_6 := Aside0.mk hc0_6
  clear hr0_6 hc0_6
  have HB := Aside0.mk (Below.refl w.heap.size w)
  have H : ((webster_right.f a0_0 a0_1 a0_2 a0_3 a0_4 l0_5 l0_6 a0_7 a0_8).bind fun t263 => (if t263 = true then ((webster_Count.f a0_0 a0_1 a0_2 a0_3 a0_4 l0_5 l0_6 a0_7 a0_8).bind fun t264 => (if a1 ≤ a0_0 then (some (a0_0, true)) else (if a1 > (wrap64 (a0_0 + (wrap64 ((wrap64 (t264 - 1)) * a0_2)))) then (some (wrap64 (a0_0 + (wrap64 ((wrap64 (t264 - 1)) * a0_2))), false)) else ((whole_Ceil.f (wrap64 (a1 - a0_0)) a0_2).bind fun bt265 => (some (wrap64 (a0_0 + (wrap64 (bt265.1 * a0_2))), true)))))) else (some (0, false)))) = some (r1, r2) := h
  clear h
  replace H := bi_ H; obtain ⟨t263, A3, H⟩ := H
  (try dsimp only at H)
  by_cases c4 : t263 = true
  · subst c4
    have H1 : ((webster_Count.f a0_0 a0_1 a0_2 a0_3 a0_4 l0_5 l0_6 a0_7 a0_8).bind fun t264 => (if a1 ≤ a0_0 then (some (a0_0, true)) else (if a1 > (wrap64 (a0_0 + (wrap64 ((wrap64 (t264 - 1)) * a0_2)))) then (some (wrap64 (a0_0 + (wrap64 ((wrap64 (t264 - 1)) * a0_2))), false)) else ((whole_Ceil.f (wrap64 (a1 - a0_0)) a0_2).bind fun bt265 => (some (wrap64 (a0_0 + (wrap64 (bt265.1 * a0_2))), true)))))) = some (r1, r2) := by rw [if_pos rfl] at H; exact H
    clear H
    have H := H1
    clear H1
    replace H := bi_ H; obtain ⟨t264, A5, H⟩ := H
    (try dsimp only at H)
    by_cases c6 : a1 ≤ a0_0
    · rw [if_pos c6] at H
      have c6b0 : decide (a1 ≤ a0_0) = true := decide_eq_true c6
      clear c6
      simp only [Option.some.injEq, Prod.mk.injEq] at H
      obtain ⟨rfl, rfl⟩ := H
      go_enter Tryd.func13, Tryd.ntmps13
      try go_wp2_with (first | ((with_reducible refine gd 2 rfl ?_); refine bx_ 2 32 #[.int .i64 a0_0, .int .i64 a0_1, .int .i64 a0_2, .int .i64 a0_3, .int .i64 a0_4, .slice A0_5 l0_5.length c0_5, .slice A0_6 l0_6.length c0_6, .int .i64 a0_7, .int .i64 a0_8] rfl rfl ?_; intro gb262 hg w7 BK262 hb; have GE262 := bz HB hg; replace HB := bs HB hb; clear hb hg; have hcz8 := k9 BK262) | ((with_reducible refine gc 40 rfl ?_); refine gm_ (some 10) rfl rfl Tryd.func40 (webster_right.calls _ _ _ _ _ _ _ _ _ _ _ _ _ _ _ ?side1 ?side2 ?side3 ?side4 A3.out) ag ?_; (case side1 => repeat (first | exact (Kd.C_below HR0_5.out HB.out) | (with_reducible refine Kd.C_alloc ?_ _) | (with_reducible refine Kd.C_drewN ?_ _) | (with_reducible refine Kd.C_drew ?_))); (case side2 => exact HC0_5.out); (case side3 => repeat (first | exact (Kd.C_below HR0_6.out HB.out) | (with_reducible refine Kd.C_alloc ?_ _) | (with_reducible refine Kd.C_drewN ?_ _) | (with_reducible refine Kd.C_drew ?_))); (case side4 => exact HC0_6.out); intro w9 hb; replace BK262 := bb BK262 hb; replace HB := bs HB hb; (try clear hb)))
      replace BK262 := Aside0.mk (blk_drew BK262.out)
      replace HB := Aside0.mk (below_drew1 HB.out)
      refine start_ (n := 10) (S := fun w' => c_ w' gb262 0 (.int .i64 a0_0) ∧ c_ w' gb262 1 (.int .i64 a0_1) ∧ c_ w' gb262 2 (.int .i64 a0_2) ∧ c_ w' gb262 3 (.int .i64 a0_3) ∧ c_ w' gb262 4 (.int .i64 a0_4) ∧ c_ w' gb262 5 (.slice A0_5 l0_5.length c0_5) ∧ c_ w' gb262 6 (.slice A0_6 l0_6.length c0_6) ∧ c_ w' gb262 7 (.int .i64 a0_7) ∧ c_ w' gb262 8 (.int .i64 a0_8)) (ds := []) (m_ 10 0) (by kernel_rfl) rfl rfl ⟨ct BK262 0, ct BK262 1, ct BK262 2, ct BK262 3, ct BK262 4, ct BK262 5, ct BK262 6, ct BK262 7, ct BK262 8⟩ (fun hHeld => ?_); refine with_tabW webster_Allowed.tab3 webster_Allowed.bits3 (fun HT_ HW_ => ?_)
      generalize w9.drew = w10 at BK262 HB hHeld ⊢
      refine pu_ 0 (some 12) (m_ 10 1) rfl rfl (ao HT_) ?_
      refine pu_ 5 (some 17) (m_ 10 33) rfl rfl (ao HT_) ?_
      refine tk_ 1 (some 13) (m_ 10 35) rfl rfl (tw HT_ HW_) hHeld ?_
      refine tk_ 2 (some 14) (m_ 10 39) rfl rfl (tw HT_ HW_) hHeld ?_
      refine tk_ 6 (some 18) (m_ 10 103) rfl rfl (tw HT_ HW_) hHeld ?_
      refine o1_ 3 (some 15) (m_ 10 111) rfl rfl (oo HT_) (fun K hK => ?_)
      refine gs_ rfl Tryd.func15 (webster_Count.calls _ _ _ _ _ _ _ _ _ _ _ _ _ _ _ ?side1 ?side2 ?side3 ?side4 A5.out) ag ?_
      (case side1 => repeat (first | exact (Kd.C_below HR0_5.out HB.out) | (with_reducible refine Kd.C_alloc ?_ _) | (with_reducible refine Kd.C_drewN ?_ _) | (with_reducible refine Kd.C_drew ?_)))
      (case side2 => exact HC0_5.out)
      (case side3 => repeat (first | exact (Kd.C_below HR0_6.out HB.out) | (with_reducible refine Kd.C_alloc ?_ _) | (with_reducible refine Kd.C_drewN ?_ _) | (with_reducible refine Kd.C_drew ?_)))
      (case side4 => exact HC0_6.out)
      intro w11 hb
      replace BK262 := bb BK262 hb
      replace HB := bs HB hb
      (try clear hb)
      refine hK.out _ _ ⟨ct BK262 0, ct BK262 1, ct BK262 2, ct BK262 3, ct BK262 4, ct BK262 5, ct BK262 6, ct BK262 7, ct BK262 8⟩ (fun hHeld => ?_)
      clear hK K
      refine nr_ (some 15) ?_
      refine pu_ 4 (some 16) (m_ 10 127) rfl rfl (ao HT_) ?_
      refine pu_ 7 (some 19) (m_ 10 255) rfl rfl (ao HT_) ?_
      refine pu_ 8 (some 20) (m_ 10 511) rfl rfl (ao HT_) ?_
      refine pu_ 9 (some 6) (m_ 10 1023) rfl rfl (ao HT_) ?_
      refine done_ (done_of HT_.out (by kernel_rfl)) ?_
      have hcz12 := k9 BK262
      try go_wp2
      go_ret2
      exact ⟨ae, bf HB⟩
    · rw [if_neg c6] at H
      have c6b0 : decide (a1 ≤ a0_0) = false := decide_eq_false c6
      clear c6
      by_cases c13 : a1 > (wrap64 (a0_0 + (wrap64 ((wrap64 (t264 - 1)) * a0_2))))
      · rw [if_pos c13] at H
        have c13b0 : decide ((wrap64 (a0_0 + (wrap64 ((wrap64 (t264 - 1)) * a0_2)))) < a1) = true := decide_eq_true c13
        clear c13
        simp only [Option.some.injEq, Prod.mk.injEq] at H
        obtain ⟨rfl, rfl⟩ := H
        go_enter Tryd.func13, Tryd.ntmps13
        try go_wp2_with (first | ((with_reducible refine gd 2 rfl ?_); refine bx_ 2 32 #[.int .i64 a0_0, .int .i64 a0_1, .int .i64 a0_2, .int .i64 a0_3, .int .i64 a0_4, .slice A0_5 l0_5.length c0_5, .slice A0_6 l0_6.length c0_6, .int .i64 a0_7, .int .i64 a0_8] rfl rfl ?_; intro gb262 hg w14 BK262 hb; have GE262 := bz HB hg; replace HB := bs HB hb; clear hb hg; have hcz15 := k9 BK262) | ((with_reducible refine gc 40 rfl ?_); refine gm_ (some 10) rfl rfl Tryd.func40 (webster_right.calls _ _ _ _ _ _ _ _ _ _ _ _ _ _ _ ?side1 ?side2 ?side3 ?side4 A3.out) ag ?_; (case side1 => repeat (first | exact (Kd.C_below HR0_5.out HB.out) | (with_reducible refine Kd.C_alloc ?_ _) | (with_reducible refine Kd.C_drewN ?_ _) | (with_reducible refine Kd.C_drew ?_))); (case side2 => exact HC0_5.out); (case side3 => repeat (first | exact (Kd.C_below HR0_6.out HB.out) | (with_reducible refine Kd.C_alloc ?_ _) | (with_reducible refine Kd.C_drewN ?_ _) | (with_reducible refine Kd.C_drew ?_))); (case side4 => exact HC0_6.out); intro w16 hb; replace BK262 := bb BK262 hb; replace HB := bs HB hb; (try clear hb)))
        replace BK262 := Aside0.mk (blk_drew BK262.out)
        replace HB := Aside0.mk (below_drew1 HB.out)
        refine start_ (n := 10) (S := fun w' => c_ w' gb262 0 (.int .i64 a0_0) ∧ c_ w' gb262 1 (.int .i64 a0_1) ∧ c_ w' gb262 2 (.int .i64 a0_2) ∧ c_ w' gb262 3 (.int .i64 a0_3) ∧ c_ w' gb262 4 (.int .i64 a0_4) ∧ c_ w' gb262 5 (.slice A0_5 l0_5.length c0_5) ∧ c_ w' gb262 6 (.slice A0_6 l0_6.length c0_6) ∧ c_ w' gb262 7 (.int .i64 a0_7) ∧ c_ w' gb262 8 (.int .i64 a0_8)) (ds := []) (m_ 10 0) (by kernel_rfl) rfl rfl ⟨ct BK262 0, ct BK262 1, ct BK262 2, ct BK262 3, ct BK262 4, ct BK262 5, ct BK262 6, ct BK262 7, ct BK262 8⟩ (fun hHeld => ?_); refine with_tabW webster_Allowed.tab3 webster_Allowed.bits3 (fun HT_ HW_ => ?_)
        generalize w16.drew = w17 at BK262 HB hHeld ⊢
        refine pu_ 0 (some 12) (m_ 10 1) rfl rfl (ao HT_) ?_
        refine pu_ 5 (some 17) (m_ 10 33) rfl rfl (ao HT_) ?_
        refine tk_ 1 (some 13) (m_ 10 35) rfl rfl (tw HT_ HW_) hHeld ?_
        refine tk_ 2 (some 14) (m_ 10 39) rfl rfl (tw HT_ HW_) hHeld ?_
        refine tk_ 6 (some 18) (m_ 10 103) rfl rfl (tw HT_ HW_) hHeld ?_
        refine o1_ 3 (some 15) (m_ 10 111) rfl rfl (oo HT_) (fun K hK => ?_)
        refine gs_ rfl Tryd.func15 (webster_Count.calls _ _ _ _ _ _ _ _ _ _ _ _ _ _ _ ?side1 ?side2 ?side3 ?side4 A5.out) ag ?_
        (case side1 => repeat (first | exact (Kd.C_below HR0_5.out HB.out) | (with_reducible refine Kd.C_alloc ?_ _) | (with_reducible refine Kd.C_drewN ?_ _) | (with_reducible refine Kd.C_drew ?_)))
        (case side2 => exact HC0_5.out)
        (case side3 => repeat (first | exact (Kd.C_below HR0_6.out HB.out) | (with_reducible refine Kd.C_alloc ?_ _) | (with_reducible refine Kd.C_drewN ?_ _) | (with_reducible refine Kd.C_drew ?_)))
        (case side4 => exact HC0_6.out)
        intro w18 hb
        replace BK262 := bb BK262 hb
        replace HB := bs HB hb
        (try clear hb)
        refine hK.out _ _ ⟨ct BK262 0, ct BK262 1, ct BK262 2, ct BK262 3, ct BK262 4, ct BK262 5, ct BK262 6, ct BK262 7, ct BK262 8⟩ (fun hHeld => ?_)
        clear hK K
        refine nr_ (some 15) ?_
        refine pu_ 4 (some 16) (m_ 10 127) rfl rfl (ao HT_) ?_
        refine pu_ 7 (some 19) (m_ 10 255) rfl rfl (ao HT_) ?_
        refine pu_ 8 (some 20) (m_ 10 511) rfl rfl (ao HT_) ?_
        refine pu_ 9 (some 6) (m_ 10 1023) rfl rfl (ao HT_) ?_
        refine done_ (done_of HT_.out (by kernel_rfl)) ?_
        have hcz19 := k9 BK262
        try go_wp2
        go_ret2
        exact ⟨ae, bf HB⟩
      · rw [if_neg c13] at H
        have c13b0 : decide ((wrap64 (a0_0 + (wrap64 ((wrap64 (t264 - 1)) * a0_2)))) < a1) = false := decide_eq_false c13
        clear c13
        replace H := bi_ H; obtain ⟨⟨t265, t266⟩, A20, H⟩ := H
        (try dsimp only at H)
        simp only [Option.some.injEq, Prod.mk.injEq] at H
        obtain ⟨rfl, rfl⟩ := H
        go_enter Tryd.func13, Tryd.ntmps13
        try go_wp2_with (first | ((with_reducible refine gd 2 rfl ?_); refine bx_ 2 32 #[.int .i64 a0_0, .int .i64 a0_1, .int .i64 a0_2, .int .i64 a0_3, .int .i64 a0_4, .slice A0_5 l0_5.length c0_5, .slice A0_6 l0_6.length c0_6, .int .i64 a0_7, .int .i64 a0_8] rfl rfl ?_; intro gb262 hg w21 BK262 hb; have GE262 := bz HB hg; replace HB := bs HB hb; clear hb hg; have hcz22 := k9 BK262) | ((with_reducible refine gc 40 rfl ?_); refine gm_ (some 10) rfl rfl Tryd.func40 (webster_right.calls _ _ _ _ _ _ _ _ _ _ _ _ _ _ _ ?side1 ?side2 ?side3 ?side4 A3.out) ag ?_; (case side1 => repeat (first | exact (Kd.C_below HR0_5.out HB.out) | (with_reducible refine Kd.C_alloc ?_ _) | (with_reducible refine Kd.C_drewN ?_ _) | (with_reducible refine Kd.C_drew ?_))); (case side2 => exact HC0_5.out); (case side3 => repeat (first | exact (Kd.C_below HR0_6.out HB.out) | (with_reducible refine Kd.C_alloc ?_ _) | (with_reducible refine Kd.C_drewN ?_ _) | (with_reducible refine Kd.C_drew ?_))); (case side4 => exact HC0_6.out); intro w23 hb; replace BK262 := bb BK262 hb; replace HB := bs HB hb; (try clear hb)))
        replace BK262 := Aside0.mk (blk_drew BK262.out)
        replace HB := Aside0.mk (below_drew1 HB.out)
        refine start_ (n := 10) (S := fun w' => c_ w' gb262 0 (.int .i64 a0_0) ∧ c_ w' gb262 1 (.int .i64 a0_1) ∧ c_ w' gb262 2 (.int .i64 a0_2) ∧ c_ w' gb262 3 (.int .i64 a0_3) ∧ c_ w' gb262 4 (.int .i64 a0_4) ∧ c_ w' gb262 5 (.slice A0_5 l0_5.length c0_5) ∧ c_ w' gb262 6 (.slice A0_6 l0_6.length c0_6) ∧ c_ w' gb262 7 (.int .i64 a0_7) ∧ c_ w' gb262 8 (.int .i64 a0_8)) (ds := []) (m_ 10 0) (by kernel_rfl) rfl rfl ⟨ct BK262 0, ct BK262 1, ct BK262 2, ct BK262 3, ct BK262 4, ct BK262 5, ct BK262 6, ct BK262 7, ct BK262 8⟩ (fun hHeld => ?_); refine with_tabW webster_Allowed.tab3 webster_Allowed.bits3 (fun HT_ HW_ => ?_)
        generalize w23.drew = w24 at BK262 HB hHeld ⊢
        refine pu_ 0 (some 12) (m_ 10 1) rfl rfl (ao HT_) ?_
        refine pu_ 5 (some 17) (m_ 10 33) rfl rfl (ao HT_) ?_
        refine tk_ 1 (some 13) (m_ 10 35) rfl rfl (tw HT_ HW_) hHeld ?_
        refine tk_ 2 (some 14) (m_ 10 39) rfl rfl (tw HT_ HW_) hHeld ?_
        refine tk_ 6 (some 18) (m_ 10 103) rfl rfl (tw HT_ HW_) hHeld ?_
        refine o1_ 3 (some 15) (m_ 10 111) rfl rfl (oo HT_) (fun K hK => ?_)
        refine gs_ rfl Tryd.func15 (webster_Count.calls _ _ _ _ _ _ _ _ _ _ _ _ _ _ _ ?side1 ?side2 ?side3 ?side4 A5.out) ag ?_
        (case side1 => repeat (first | exact (Kd.C_below HR0_5.out HB.out) | (with_reducible refine Kd.C_alloc ?_ _) | (with_reducible refine Kd.C_drewN ?_ _) | (with_reducible refine Kd.C_drew ?_)))
        (case side2 => exact HC0_5.out)
        (case side3 => repeat (first | exact (Kd.C_below HR0_6.out HB.out) | (with_reducible refine Kd.C_alloc ?_ _) | (with_reducible refine Kd.C_drewN ?_ _) | (with_reducible refine Kd.C_drew ?_)))
        (case side4 => exact HC0_6.out)
        intro w25 hb
        replace BK262 := bb BK262 hb
        replace HB := bs HB hb
        (try clear hb)
        refine hK.out _ _ ⟨ct BK262 0, ct BK262 1, ct BK262 2, ct BK262 3, ct BK262 4, ct BK262 5, ct BK262 6, ct BK262 7, ct BK262 8⟩ (fun hHeld => ?_)
        clear hK K
        refine nr_ (some 15) ?_
        refine pu_ 4 (some 16) (m_ 10 127) rfl rfl (ao HT_) ?_
        refine pu_ 7 (some 19) (m_ 10 255) rfl rfl (ao HT_) ?_
        refine pu_ 8 (some 20) (m_ 10 511) rfl rfl (ao HT_) ?_
        refine pu_ 9 (some 6) (m_ 10 1023) rfl rfl (ao HT_) ?_
        refine done_ (done_of HT_.out (by kernel_rfl)) ?_
        have hcz26 := k9 BK262
        try go_wp2_with (first | ((with_reducible refine gc 41 rfl ?_); refine gm_ (some 40) rfl rfl Tryd.func41 (whole_Ceil.calls (wrap64 (a1 - a0_0)) _ _ _ _ A20.out) ag ?_; rintro w' ⟨nd, rfl⟩))
        go_ret2
        exact ⟨ae, bf HB⟩
  · replace c4 := Bool.eq_false_iff.mpr c4
    subst c4
    have H1 : (some (0, false)) = some (r1, r2) := by rw [if_neg (show ¬ (false = true) by decide)] at H; exact H
    clear H
    have H := H1
    clear H1
    simp only [Option.some.injEq, Prod.mk.injEq] at H
    obtain ⟨rfl, rfl⟩ := H
    go_enter Tryd.func13, Tryd.ntmps13
    go_wp2_with (first | ((with_reducible refine gd 2 rfl ?_); refine bx_ 2 32 #[.int .i64 a0_0, .int .i64 a0_1, .int .i64 a0_2, .int .i64 a0_3, .int .i64 a0_4, .slice A0_5 l0_5.length c0_5, .slice A0_6 l0_6.length c0_6, .int .i64 a0_7, .int .i64 a0_8] rfl rfl ?_; intro gb262 hg w27 BK262 hb; have GE262 := bz HB hg; replace HB := bs HB hb; clear hb hg; have hcz28 := k9 BK262) | ((with_reducible refine gc 40 rfl ?_); refine gm_ (some 10) rfl rfl Tryd.func40 (webster_right.calls _ _ _ _ _ _ _ _ _ _ _ _ _ _ _ ?side1 ?side2 ?side3 ?side4 A3.out) ag ?_; (case side1 => repeat (first | exact (Kd.C_below HR0_5.out HB.out) | (with_reducible refine Kd.C_alloc ?_ _) | (with_reducible refine Kd.C_drewN ?_ _) | (with_reducible refine Kd.C_drew ?_))); (case side2 => exact HC0_5.out); (case side3 => repeat (first | exact (Kd.C_below HR0_6.out HB.out) | (with_reducible refine Kd.C_alloc ?_ _) | (with_reducible refine Kd.C_drewN ?_ _) | (with_reducible refine Kd.C_drew ?_))); (case side4 => exact HC0_6.out); intro w29 hb; replace HB := bs HB hb; (try clear hb)))
    go_ret2
    exact ⟨ae, bf HB⟩

end Go.Proofs.YtpdmiookdmncpaaDoor.X
