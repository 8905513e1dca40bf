/- The walks of functions of the program, laid by a program of this session over the translation: each '.calls' says that the Go function comes to what its Lean function tells. Conditions: as each theorem's head says. -/
import Derived.Test.YtpdmiookdmncpaaDoorXD
import Derived.Test.YtpdmiookdmncpaaDoorX0
import Derived.Test.YtpdmiookdmncpaaDoorX2
import Derived.Test.YtpdmiookdmncpaaDoorX6
import Derived.Test.YtpdmiookdmncpaaDoorX8
namespace Go.Proofs.YtpdmiookdmncpaaDoor.X
open Go.RowKit Go.Proofs.YtpdmiookdmncpaaDoorW.PrintWords Go.Proofs.YtpdmiookdmncpaaDoorW.PrintLast Go.Proofs.YtpdmiookdmncpaaDoorW.PrintMore
attribute [local go_sem] max2_int min2_int max_two min_two max_three min_three max_four min_four   -- for this text's walks alone
set_option linter.unusedVariables false
set_option linter.unusedSimpArgs false

/-! ### webster_Cycle: function 10 -/
set_option maxHeartbeats 8000000 in
set_option maxRecDepth 100000 in
theorem webster_Cycle.calls (k : Nat) (a0 : Int) (a1_0 : Int) (a1_1 : Int) (r1 : Int) (r2 : Bool) (r3 : Int) (w : World) (h : webster_Cycle.f k a0 a1_0 a1_1 = some (r1, r2, r3)) (hT : TabOK w) :
    Calls Tryd.prog 10 #[.int .i64 a0, .agg #[.int .i64 a1_0, .int .i64 a1_1]] w fun e w' => e = .returned (.tuple #[.int .i64 r1, .bool r2, .int .i64 r3]) ∧ Below w.heap.size w w' := by
  have GT := Aside0.mk hT
  clear hT
  have hu23 := Tryd.underlying23
  have HB := Aside0.mk (Below.refl w.heap.size w)
  have H : (if a0 < 0 then (webster_Cycle.j0 k a0 true a1_0 a1_1) else (if a0 > 600000 then (webster_Cycle.j0 k a0 true a1_0 a1_1) else ((frac_Right.f k a1_0 a1_1).bind fun t245 => (if t245 = true then (webster_Cycle.j0 k a0 (decide (a1_0 < 0)) a1_0 a1_1) else (webster_Cycle.j0 k a0 true a1_0 a1_1))))) = some (r1, r2, r3) := h
  clear h
  have HC3 := Aside0.mk H
  clear H
  go_enter Tryd.func10, Tryd.ntmps10
  go_upto_region 1 with (first | ((with_reducible refine gd 3 rfl ?_); refine bx_ 3 23 #[.int .i64 a1_0, .int .i64 a1_1] rfl rfl ?_; intro gb244 hg w4 BK244 hb; have GE244 := bz HB hg; replace HB := bs HB hb; clear hb hg))
  (try simp only [Act.put, si, s0, s1])
  go_cut [26] (fun v26 wc => ∃ (kq : Nat) (x26_2 : Bool), v26 = .bool x26_2 ∧ Aside0 (webster_Cycle.j0 kq a0 x26_2 a1_0 a1_1 = some (r1, r2, r3)) ∧ Aside0 (kq ≤ k) ∧ Aside0 (wc.heap[gb244]? = some (.cells #[.int .i64 a1_0, .int .i64 a1_1] 23 (0, 0))) ∧ Aside0 (Below w.heap.size w wc))
  case first =>
    have H := HC3.out
    clear HC3
    by_cases c5 : a0 < 0
    · rw [if_pos c5] at H
      have c5b0 : decide (a0 < 0) = true := decide_eq_true c5
      clear c5
      (first | rw [c5b0] | (simp only [i64_w, i32_w]; rw [c5b0]) | skip)
      have H' := Aside0.mk H
      clear H
      go_wp2
      go_meet
      case rel => exact ⟨_, (true), (aq), H', ⟨by first | omega | exact Nat.le_refl _⟩, bu_ BK244, ⟨bf HB⟩⟩
    · rw [if_neg c5] at H
      have c5b0 : decide (a0 < 0) = false := decide_eq_false c5
      clear c5
      (first | rw [c5b0] | (simp only [i64_w, i32_w]; rw [c5b0]) | skip)
      by_cases c6 : a0 > 600000
      · rw [if_pos c6] at H
        have c6b0 : decide (600000 < a0) = true := decide_eq_true c6
        clear c6
        have H' := Aside0.mk H
        clear H
        go_wp2
        go_meet
        case rel => exact ⟨_, (true), (aq), H', ⟨by first | omega | exact Nat.le_refl _⟩, bu_ BK244, ⟨bf HB⟩⟩
      · rw [if_neg c6] at H
        have c6b0 : decide (600000 < a0) = false := decide_eq_false c6
        clear c6
        replace H := bi_ H; obtain ⟨t245, A7, H⟩ := H
        (try dsimp only at H)
        by_cases c8 : t245 = true
        · subst c8
          have H1 : (webster_Cycle.j0 k a0 (decide (a1_0 < 0)) a1_0 a1_1) = some (r1, r2, r3) := by rw [if_pos rfl] at H; exact H
          clear H
          have H := H1
          clear H1
          have H' := Aside0.mk H
          clear H
          have hcz9 := k2 BK244
          go_wp2_with (first | (go_at_call 33; (with_reducible refine (frac_Right.calls _ _ _ _ _ A7.out ?hT).mono ?_); (case hT => first | exact tb GT.out HB | exact tb0 GT.out); rintro e w10 ⟨rfl, hb⟩; replace BK244 := bb BK244 hb; replace HB := bs HB hb; (try clear hb); have hcz11 := k2 BK244))
          go_meet
          case rel => exact ⟨_, (decide (a1_0 < 0)), (aq), H', ⟨by first | omega | exact Nat.le_refl _⟩, bu_ BK244, ⟨bf HB⟩⟩
        · replace c8 := Bool.eq_false_iff.mpr c8
          subst c8
          have H1 : (webster_Cycle.j0 k a0 true a1_0 a1_1) = some (r1, r2, r3) := by rw [if_neg (show ¬ (false = true) by decide)] at H; exact H
          clear H
          have H := H1
          clear H1
          have H' := Aside0.mk H
          clear H
          have hcz12 := k2 BK244
          go_wp2_with (first | (go_at_call 33; (with_reducible refine (frac_Right.calls _ _ _ _ _ A7.out ?hT).mono ?_); (case hT => first | exact tb GT.out HB | exact tb0 GT.out); rintro e w13 ⟨rfl, hb⟩; replace BK244 := bb BK244 hb; replace HB := bs HB hb; (try clear hb)))
          go_meet
          case rel => exact ⟨_, (true), (aq), H', ⟨by first | omega | exact Nat.le_refl _⟩, bu_ BK244, ⟨bf HB⟩⟩
  case rest =>
    clear HC3
    try clear c1
    try clear p2
    try clear c5
    try clear c5b0
    try clear c6
    try clear c6b0
    try clear c8
    try clear c10
    try clear hcz11
    try clear hcz12
    try clear hcz9
    obtain ⟨kq, x26_2, rfl, HA, HJ2, BK244, HB⟩ := hcut
    cases kq with
    | zero => exact absurd HA.out (by simp [webster_Cycle.j0])
    | succ kj2 =>
      have H := HA.out
      clear HA
      simp only [webster_Cycle.j0] at H
      by_cases c14 : x26_2 = true
      · subst c14
        have H1 : (some (0, false, 1)) = some (r1, r2, r3) := by rw [if_pos rfl] at H; exact H
        clear H
        have H := H1
        clear H1
        simp only [Option.some.injEq, Prod.mk.injEq] at H
        obtain ⟨rfl, rfl, rfl⟩ := H
        go_wp2
        go_ret3
        exact ⟨by first | rfl | (simp [errW_none, errW_some] <;> rfl) | (simp [*, errW_none, errW_some] <;> rfl), bf HB⟩
      · replace c14 := Bool.eq_false_iff.mpr c14
        subst c14
        have H1 : (if a1_0 ≥ a1_1 then (some (0, false, 0)) else ((frac_Of.f kj2 (wrap64 (a1_1 - a1_0)) a1_1).bind fun bt246 => (if bt246.2.2 = 0 then ((frac_Of.f kj2 (wrap64 ((wrap64 (3 * a0)) + 100)) 2).bind fun bt250 => (if bt250.2.2 = 0 then ((frac_Div.f kj2 bt250.1 bt250.2.1 bt246.1 bt246.2.1).bind fun bt254 => (if bt254.2.2 = 0 then ((frac_Ceil.f kj2 bt254.1 bt254.2.1).bind fun t258 => (some (t258, true, 0))) else (some (0, false, bt254.2.2)))) else (some (0, false, bt250.2.2)))) else (some (0, false, bt246.2.2))))) = some (r1, r2, r3) := by rw [if_neg (show ¬ (false = true) by decide)] at H; exact H
        clear H
        have H := H1
        clear H1
        by_cases c15 : a1_0 ≥ a1_1
        · rw [if_pos c15] at H
          have c15b0 : decide (a1_1 ≤ a1_0) = true := decide_eq_true c15
          clear c15
          simp only [Option.some.injEq, Prod.mk.injEq] at H
          obtain ⟨rfl, rfl, rfl⟩ := H
          have hcz16 := k2 BK244
          go_wp2
          go_ret3
          exact ⟨by first | rfl | (simp [errW_none, errW_some] <;> rfl) | (simp [*, errW_none, errW_some] <;> rfl), bf HB⟩
        · rw [if_neg c15] at H
          have c15b0 : decide (a1_1 ≤ a1_0) = false := decide_eq_false c15
          clear c15
          replace H := bi_ H; obtain ⟨⟨t246, t247, t248⟩, A17, H⟩ := H
          (try dsimp only at H)
          by_cases c18 : t248 = 0
          · rw [if_pos c18] at H
            have c18b0 : (t248 == 0) = true := beq_iff_eq.mpr c18
            have c18b1 : (t248 != 0) = false := bne_eq_false_iff_eq.mpr c18
            clear c18
            replace H := bi_ H; obtain ⟨⟨t250, t251, t252⟩, A19, H⟩ := H
            (try dsimp only at H)
            by_cases c20 : t252 = 0
            · rw [if_pos c20] at H
              have c20b0 : (t252 == 0) = true := beq_iff_eq.mpr c20
              have c20b1 : (t252 != 0) = false := bne_eq_false_iff_eq.mpr c20
              clear c20
              replace H := bi_ H; obtain ⟨⟨t254, t255, t256⟩, A21, H⟩ := H
              (try dsimp only at H)
              by_cases c22 : t256 = 0
              · rw [if_pos c22] at H
                have c22b0 : (t256 == 0) = true := beq_iff_eq.mpr c22
                have c22b1 : (t256 != 0) = false := bne_eq_false_iff_eq.mpr c22
                clear c22
                replace H := bi_ H; obtain ⟨t258, A23, H⟩ := H
                (try dsimp only at H)
                simp only [Option.some.injEq, Prod.mk.injEq] at H
                obtain ⟨rfl, rfl, rfl⟩ := H
                have hcz24 := k2 BK244
                go_wp2_with (first | ((with_reducible refine gc 34 rfl ?_); refine gl_ (some 40) rfl rfl Tryd.func34 ((frac_Of.calls _ _ _ _ _ _ _ A17.out ?hT).mono ?_) ag; (case hT => first | exact tb GT.out HB | exact tb0 GT.out); rintro e w25 ⟨rfl, hb⟩; refine ⟨_, rfl, ?_⟩; replace BK244 := bb BK244 hb; replace HB := bs HB hb; (try clear hb)) | ((with_reducible refine gd 7 rfl ?_); refine bx_ 7 23 #[.int .i64 0, .int .i64 0] rfl rfl ?_; intro gb249 hg w26 BK249 hb; have GE249 := bz HB hg; have ⟨NB244_249, NB249_244⟩ := nb BK244 hg; replace BK244 := bb BK244 hb; replace HB := bs HB hb; clear hb hg; have hnb27 := nn NB249_244; have hcz28 := k2 BK249) | ((with_reducible refine gc 34 rfl ?_); refine gl_ (some 50) rfl rfl Tryd.func34 ((frac_Of.calls _ _ _ _ _ _ _ A19.out ?hT).mono ?_) ag; (case hT => first | exact tb GT.out HB | exact tb0 GT.out); rintro e w29 ⟨rfl, hb⟩; refine ⟨_, rfl, ?_⟩; replace BK244 := bb BK244 hb; replace BK249 := bp_ #[.int .i64 t246, .int .i64 t247] BK249 hb; replace HB := bs HB hb; (try clear hb)) | ((with_reducible refine gd 9 rfl ?_); refine bx_ 9 23 #[.int .i64 0, .int .i64 0] rfl rfl ?_; intro gb253 hg w30 BK253 hb; have GE253 := bz HB hg; have ⟨NB244_253, NB253_244⟩ := nb BK244 hg; have ⟨NB249_253, NB253_249⟩ := nb BK249 hg; replace BK244 := bb BK244 hb; replace BK249 := bb BK249 hb; replace HB := bs HB hb; clear hb hg; have hnb31 := nn NB253_244; have hnb32 := nn NB253_249; have hcz33 := k2 BK253; have hcz34 := k2 BK249) | ((with_reducible refine gc 35 rfl ?_); refine gl_ (some 59) rfl rfl Tryd.func35 ((frac_Div.calls _ _ _ _ _ _ _ _ _ A21.out ?hT).mono ?_) ag; (case hT => first | exact tb GT.out HB | exact tb0 GT.out); rintro e w35 ⟨rfl, hb⟩; refine ⟨_, rfl, ?_⟩; replace BK244 := bb BK244 hb; replace BK249 := bb BK249 hb; replace BK253 := bp_ #[.int .i64 t250, .int .i64 t251] BK253 hb; replace HB := bs HB hb; (try clear hb)) | ((with_reducible refine gd 10 rfl ?_); refine bx_ 10 23 #[.int .i64 0, .int .i64 0] rfl rfl ?_; intro gb257 hg w36 BK257 hb; have GE257 := bz HB hg; have ⟨NB244_257, NB257_244⟩ := nb BK244 hg; have ⟨NB249_257, NB257_249⟩ := nb BK249 hg; have ⟨NB253_257, NB257_253⟩ := nb BK253 hg; replace BK244 := bb BK244 hb; replace BK249 := bb BK249 hb; replace BK253 := bb BK253 hb; replace HB := bs HB hb; clear hb hg; have hnb37 := nn NB257_244; have hnb38 := nn NB257_249; have hnb39 := nn NB257_253; have hcz40 := k2 BK257) | ((with_reducible refine gc 36 rfl ?_); refine gl_ (some 66) rfl rfl Tryd.func36 ((frac_Ceil.calls _ _ _ _ _ A23.out ?hT).mono ?_) ag; (case hT => first | exact tb GT.out HB | exact tb0 GT.out); rintro e w41 ⟨rfl, hb⟩; refine ⟨_, rfl, ?_⟩; replace BK244 := bb BK244 hb; replace BK249 := bb BK249 hb; replace BK253 := bb BK253 hb; replace BK257 := bp_ #[.int .i64 t254, .int .i64 t255] BK257 hb; replace HB := bs HB hb; (try clear hb)))
                go_ret3
                exact ⟨by first | rfl | (simp [errW_none, errW_some] <;> rfl) | (simp [*, errW_none, errW_some] <;> rfl), bf HB⟩
              · rw [if_neg c22] at H
                have c22b0 : (t256 == 0) = false := beq_eq_false_iff_ne.mpr c22
                have c22b1 : (t256 != 0) = true := bne_iff_ne.mpr c22
                simp only [Option.some.injEq, Prod.mk.injEq] at H
                obtain ⟨rfl, rfl, rfl⟩ := H
                have hcz42 := k2 BK244
                go_wp2_with (first | ((with_reducible refine gc 34 rfl ?_); refine gl_ (some 40) rfl rfl Tryd.func34 ((frac_Of.calls _ _ _ _ _ _ _ A17.out ?hT).mono ?_) ag; (case hT => first | exact tb GT.out HB | exact tb0 GT.out); rintro e w43 ⟨rfl, hb⟩; refine ⟨_, rfl, ?_⟩; replace BK244 := bb BK244 hb; replace HB := bs HB hb; (try clear hb)) | ((with_reducible refine gd 7 rfl ?_); refine bx_ 7 23 #[.int .i64 0, .int .i64 0] rfl rfl ?_; intro gb249 hg w44 BK249 hb; have GE249 := bz HB hg; have ⟨NB244_249, NB249_244⟩ := nb BK244 hg; replace BK244 := bb BK244 hb; replace HB := bs HB hb; clear hb hg; have hnb45 := nn NB249_244; have hcz46 := k2 BK249) | ((with_reducible refine gc 34 rfl ?_); refine gl_ (some 50) rfl rfl Tryd.func34 ((frac_Of.calls _ _ _ _ _ _ _ A19.out ?hT).mono ?_) ag; (case hT => first | exact tb GT.out HB | exact tb0 GT.out); rintro e w47 ⟨rfl, hb⟩; refine ⟨_, rfl, ?_⟩; replace BK244 := bb BK244 hb; replace BK249 := bp_ #[.int .i64 t246, .int .i64 t247] BK249 hb; replace HB := bs HB hb; (try clear hb)) | ((with_reducible refine gd 9 rfl ?_); refine bx_ 9 23 #[.int .i64 0, .int .i64 0] rfl rfl ?_; intro gb253 hg w48 BK253 hb; have GE253 := bz HB hg; have ⟨NB244_253, NB253_244⟩ := nb BK244 hg; have ⟨NB249_253, NB253_249⟩ := nb BK249 hg; replace BK244 := bb BK244 hb; replace BK249 := bb BK249 hb; replace HB := bs HB hb; clear hb hg; have hnb49 := nn NB253_244; have hnb50 := nn NB253_249; have hcz51 := k2 BK253; have hcz52 := k2 BK249) | ((with_reducible refine gc 35 rfl ?_); refine gl_ (some 59) rfl rfl Tryd.func35 ((frac_Div.calls _ _ _ _ _ _ _ _ _ A21.out ?hT).mono ?_) ag; (case hT => first | exact tb GT.out HB | exact tb0 GT.out); rintro e w53 ⟨rfl, hb⟩; refine ⟨_, rfl, ?_⟩; replace BK244 := bb BK244 hb; replace BK249 := bb BK249 hb; replace BK253 := bp_ #[.int .i64 t250, .int .i64 t251] BK253 hb; replace HB := bs HB hb; (try clear hb)) | ((with_reducible refine gd 10 rfl ?_); refine bx_ 10 23 #[.int .i64 0, .int .i64 0] rfl rfl ?_; intro gb257 hg w54 BK257 hb; have GE257 := bz HB hg; have ⟨NB244_257, NB257_244⟩ := nb BK244 hg; have ⟨NB249_257, NB257_249⟩ := nb BK249 hg; have ⟨NB253_257, NB257_253⟩ := nb BK253 hg; replace BK244 := bb BK244 hb; replace BK249 := bb BK249 hb; replace BK253 := bb BK253 hb; replace HB := bs HB hb; clear hb hg; have hnb55 := nn NB257_244; have hnb56 := nn NB257_249; have hnb57 := nn NB257_253; have hcz58 := k2 BK257))
                go_ret3
                exact ⟨by first | rfl | (simp [errW_none, errW_some] <;> rfl) | (simp [*, errW_none, errW_some] <;> rfl), bf HB⟩
            · rw [if_neg c20] at H
              have c20b0 : (t252 == 0) = false := beq_eq_false_iff_ne.mpr c20
              have c20b1 : (t252 != 0) = true := bne_iff_ne.mpr c20
              simp only [Option.some.injEq, Prod.mk.injEq] at H
              obtain ⟨rfl, rfl, rfl⟩ := H
              have hcz59 := k2 BK244
              go_wp2_with (first | ((with_reducible refine gc 34 rfl ?_); refine gl_ (some 40) rfl rfl Tryd.func34 ((frac_Of.calls _ _ _ _ _ _ _ A17.out ?hT).mono ?_) ag; (case hT => first | exact tb GT.out HB | exact tb0 GT.out); rintro e w60 ⟨rfl, hb⟩; refine ⟨_, rfl, ?_⟩; replace BK244 := bb BK244 hb; replace HB := bs HB hb; (try clear hb)) | ((with_reducible refine gd 7 rfl ?_); refine bx_ 7 23 #[.int .i64 0, .int .i64 0] rfl rfl ?_; intro gb249 hg w61 BK249 hb; have GE249 := bz HB hg; have ⟨NB244_249, NB249_244⟩ := nb BK244 hg; replace BK244 := bb BK244 hb; replace HB := bs HB hb; clear hb hg; have hnb62 := nn NB249_244; have hcz63 := k2 BK249) | ((with_reducible refine gc 34 rfl ?_); refine gl_ (some 50) rfl rfl Tryd.func34 ((frac_Of.calls _ _ _ _ _ _ _ A19.out ?hT).mono ?_) ag; (case hT => first | exact tb GT.out HB | exact tb0 GT.out); rintro e w64 ⟨rfl, hb⟩; refine ⟨_, rfl, ?_⟩; replace BK244 := bb BK244 hb; replace BK249 := bp_ #[.int .i64 t246, .int .i64 t247] BK249 hb; replace HB := bs HB hb; (try clear hb)) | ((with_reducible refine gd 9 rfl ?_); refine bx_ 9 23 #[.int .i64 0, .int .i64 0] rfl rfl ?_; intro gb253 hg w65 BK253 hb; have GE253 := bz HB hg; have ⟨NB244_253, NB253_244⟩ := nb BK244 hg; have ⟨NB249_253, NB253_249⟩ := nb BK249 hg; replace BK244 := bb BK244 hb; replace BK249 := bb BK249 hb; replace HB := bs HB hb; clear hb hg; have hnb66 := nn NB253_244; have hnb67 := nn NB253_249; have hcz68 := k2 BK253))
              go_ret3
              exact ⟨by first | rfl | (simp [errW_none, errW_some] <;> rfl) | (simp [*, errW_none, errW_some] <;> rfl), bf HB⟩
          · rw [if_neg c18] at H
            have c18b0 : (t248 == 0) = false := beq_eq_false_iff_ne.mpr c18
            have c18b1 : (t248 != 0) = true := bne_iff_ne.mpr c18
            simp only [Option.some.injEq, Prod.mk.injEq] at H
            obtain ⟨rfl, rfl, rfl⟩ := H
            have hcz69 := k2 BK244
            go_wp2_with (first | ((with_reducible refine gc 34 rfl ?_); refine gl_ (some 40) rfl rfl Tryd.func34 ((frac_Of.calls _ _ _ _ _ _ _ A17.out ?hT).mono ?_) ag; (case hT => first | exact tb GT.out HB | exact tb0 GT.out); rintro e w70 ⟨rfl, hb⟩; refine ⟨_, rfl, ?_⟩; replace BK244 := bb BK244 hb; replace HB := bs HB hb; (try clear hb)) | ((with_reducible refine gd 7 rfl ?_); refine bx_ 7 23 #[.int .i64 0, .int .i64 0] rfl rfl ?_; intro gb249 hg w71 BK249 hb; have GE249 := bz HB hg; have ⟨NB244_249, NB249_244⟩ := nb BK244 hg; replace BK244 := bb BK244 hb; replace HB := bs HB hb; clear hb hg; have hnb72 := nn NB249_244; have hcz73 := k2 BK249))
            go_ret3
            exact ⟨by first | rfl | (simp [errW_none, errW_some] <;> rfl) | (simp [*, errW_none, errW_some] <;> rfl), bf HB⟩

/-! ### carrefourref01_Size: function 42 -/
set_option maxHeartbeats 8000000 in
set_option maxRecDepth 100000 in
theorem carrefourref01_Size.calls (a0 : Int) (r : Int) (w : World) (h : carrefourref01_Size.f a0 = some r) :
    Calls Tryd.prog 42 #[.int .i64 a0] w fun e w' => e = .returned (.int .u64 r) ∧ Drawn0 w w' := by
  have H : (if a0 < 0 then (some (IntKind.u64.wrap (-(IntKind.u64.wrap (a0))))) else (some (IntKind.u64.wrap (a0)))) = some r := h
  clear h
  by_cases c2 : a0 < 0
  · rw [if_pos c2] at H
    have c2b0 : decide (a0 < 0) = true := decide_eq_true c2
    clear c2
    obtain rfl := Option.some.inj H
    go_enter Tryd.func42, Tryd.ntmps42
    go_wp2
    go_ret
    exact ⟨aq, dr⟩
  · rw [if_neg c2] at H
    have c2b0 : decide (a0 < 0) = false := decide_eq_false c2
    clear c2
    obtain rfl := Option.some.inj H
    go_enter Tryd.func42, Tryd.ntmps42
    go_wp2
    go_ret
    exact ⟨aq, dr⟩

/-! ### carrefourref02_gcd: function 43 -/
set_option maxHeartbeats 8000000 in
set_option maxRecDepth 100000 in
theorem carrefourref02_gcd.calls (k : Nat) (a0 : Int) (a1 : Int) (r : Int) (w : World) (h : carrefourref02_gcd.f k a0 a1 = some r) :
    Calls Tryd.prog 43 #[.int .u64 a0, .int .u64 a1] w fun e w' => e = .returned (.int .u64 r) ∧ Drawn0 w w' := by
  have H : (carrefourref02_gcd.l0 k a0 a1) = some r := h
  clear h
  have H' := Aside0.mk H
  clear H
  go_enter Tryd.func43, Tryd.ntmps43
  go_wp2
  go_loopg [0, 1] k (fun kq v0 v1 w' => ∃ (x0_1 : Int) (x1_1 : Int), v0 = .int .u64 x0_1 ∧ v1 = .int .u64 x1_1 ∧ Aside0 (carrefourref02_gcd.l0 kq x0_1 x1_1 = some r) ∧ Aside0 (kq ≤ k) ∧ Drawn0 w w')
  case atStart => exact ⟨(a0), (a1), (aq), (aq), H', ⟨Nat.le_refl _⟩, dr⟩
  case round =>
    clear H'
    try clear p2
    obtain ⟨x0_1, x1_1, rfl, rfl, HA, HK1, ⟨m1, rfl⟩⟩ := hrel
    cases gk with
    | zero => exact absurd HA.out (by simp [carrefourref02_gcd.l0])
    | succ k1 =>
      have H := HA.out
      clear HA
      simp only [carrefourref02_gcd.l0] at H
      by_cases c3 : x1_1 = 0
      · rw [if_pos c3] at H
        have c3b0 : (x1_1 == 0) = true := beq_iff_eq.mpr c3
        have c3b1 : (x1_1 != 0) = false := bne_eq_false_iff_eq.mpr c3
        clear c3
        obtain rfl := Option.some.inj H
        go_wp2
        go_ret
        exact ⟨aq, dr⟩
      · rw [if_neg c3] at H
        have c3b0 : (x1_1 == 0) = false := beq_eq_false_iff_ne.mpr c3
        have c3b1 : (x1_1 != 0) = true := bne_iff_ne.mpr c3
        have H' := Aside0.mk H
        clear H
        go_wp2
        go_roundg k1
        case measure => have := HK1.out; omega
        case rel => exact ⟨(x1_1), (Int.tmod x0_1 x1_1), (aq), (aq), H', ⟨by have := HK1.out; omega⟩, dr⟩

/-! ### carrefourref01_Signed: function 72 -/
set_option maxHeartbeats 8000000 in
set_option maxRecDepth 100000 in
theorem carrefourref01_Signed.calls (k : Nat) (a0 : Int) (a1 : Bool) (r1 : Int) (r2 : Int) (w : World) (h : carrefourref01_Signed.f k a0 a1 = some (r1, r2)) :
    Calls Tryd.prog 72 #[.int .u64 a0, .bool a1] w fun e w' => e = .returned (.tuple #[.int .i64 r1, .int .i64 r2]) ∧ Drawn0 w w' := by
  have H : (if a0 = 9223372036854775808 then (carrefourref01_Signed.j0 k a0 a1 a1) else (carrefourref01_Signed.j0 k a0 a1 false)) = some (r1, r2) := h
  clear h
  have HC3 := Aside0.mk H
  clear H
  go_enter Tryd.func72, Tryd.ntmps72
  go_upto_region 1 with (fail)
  go_cut [10] (fun v10 wc => ∃ (kq : Nat) (x10_2 : Bool), v10 = .bool x10_2 ∧ Aside0 (carrefourref01_Signed.j0 kq a0 a1 x10_2 = some (r1, r2)) ∧ Aside0 (kq ≤ k) ∧ Drawn0 w wc)
  case first =>
    have H := HC3.out
    clear HC3
    by_cases c4 : a0 = 9223372036854775808
    · rw [if_pos c4] at H
      have c4b0 : (a0 == 9223372036854775808) = true := beq_iff_eq.mpr c4
      have c4b1 : (a0 != 9223372036854775808) = false := bne_eq_false_iff_eq.mpr c4
      clear c4
      (first | rw [c4b0] | (simp only [i64_w, i32_w]; rw [c4b0]) | skip)
      have H' := Aside0.mk H
      clear H
      go_wp2
      go_meet
      case rel => exact ⟨_, (a1), (aq), H', ⟨by first | omega | exact Nat.le_refl _⟩, dr⟩
    · rw [if_neg c4] at H
      have c4b0 : (a0 == 9223372036854775808) = false := beq_eq_false_iff_ne.mpr c4
      have c4b1 : (a0 != 9223372036854775808) = true := bne_iff_ne.mpr c4
      (first | rw [c4b0] | (simp only [i64_w, i32_w]; rw [c4b0]) | skip)
      have H' := Aside0.mk H
      clear H
      go_wp2
      go_meet
      case rel => exact ⟨_, (false), (aq), H', ⟨by first | omega | exact Nat.le_refl _⟩, dr⟩
  case rest =>
    clear HC3
    try clear p2
    try clear c4
    try clear c4b0
    try clear c4b1
    obtain ⟨kq, x10_2, rfl, HA, HJ2, ⟨mc2, rfl⟩⟩ := hcut
    cases kq with
    | zero => exact absurd HA.out (by simp [carrefourref01_Signed.j0])
    | succ kj2 =>
      have H := HA.out
      clear HA
      simp only [carrefourref01_Signed.j0] at H
      by_cases c5 : x10_2 = true
      · subst c5
        have H1 : (some ((-9223372036854775808), 0)) = some (r1, r2) := by rw [if_pos rfl] at H; exact H
        clear H
        have H := H1
        clear H1
        simp only [Option.some.injEq, Prod.mk.injEq] at H
        obtain ⟨rfl, rfl⟩ := H
        go_wp2
        go_ret2
        exact ⟨aq, dr⟩
      · replace c5 := Bool.eq_false_iff.mpr c5
        subst c5
        have H1 : (if a0 > 9223372036854775807 then (some (0, 2)) else (if a1 = true then (some (wrap64 (-(wrap64 (a0))), 0)) else (some (wrap64 (a0), 0)))) = some (r1, r2) := by rw [if_neg (show ¬ (false = true) by decide)] at H; exact H
        clear H
        have H := H1
        clear H1
        by_cases c6 : a0 > 9223372036854775807
        · rw [if_pos c6] at H
          have c6b0 : decide (9223372036854775807 < a0) = true := decide_eq_true c6
          clear c6
          simp only [Option.some.injEq, Prod.mk.injEq] at H
          obtain ⟨rfl, rfl⟩ := H
          go_wp2
          go_ret2
          exact ⟨aq, dr⟩
        · rw [if_neg c6] at H
          have c6b0 : decide (9223372036854775807 < a0) = false := decide_eq_false c6
          clear c6
          by_cases c7 : a1 = true
          · subst c7
            have H1 : (some (wrap64 (-(wrap64 (a0))), 0)) = some (r1, r2) := by rw [if_pos rfl] at H; exact H
            clear H
            have H := H1
            clear H1
            simp only [Option.some.injEq, Prod.mk.injEq] at H
            obtain ⟨rfl, rfl⟩ := H
            go_wp2
            go_ret2
            exact ⟨aq, dr⟩
          · replace c7 := Bool.eq_false_iff.mpr c7
            subst c7
            have H1 : (some (wrap64 (a0), 0)) = some (r1, r2) := by rw [if_neg (show ¬ (false = true) by decide)] at H; exact H
            clear H
            have H := H1
            clear H1
            simp only [Option.some.injEq, Prod.mk.injEq] at H
            obtain ⟨rfl, rfl⟩ := H
            go_wp2
            go_ret2
            exact ⟨aq, dr⟩

/-! ### carrefourref02_made: function 44 -/
set_option maxHeartbeats 8000000 in
set_option maxRecDepth 100000 in
theorem carrefourref02_made.calls (k : Nat) (a0 : Int) (a1 : Int) (a2 : Bool) (r1 : Int) (r2 : Int) (r3 : Int) (w : World) (h : carrefourref02_made.f k a0 a1 a2 = some (r1, r2, r3)) :
    Calls Tryd.prog 44 #[.int .u64 a0, .int .u64 a1, .bool a2] w fun e w' => e = .returned (.tuple #[.agg #[.int .i64 r1, .int .i64 r2], .int .i64 r3]) ∧ Below w.heap.size w w' := by
  have hu23 := Tryd.underlying23
  have HB := Aside0.mk (Below.refl w.heap.size w)
  have H : ((carrefourref01_Signed.f k a0 a2).bind fun bt260 => ((carrefourref01_Signed.f k a1 false).bind fun bt262 => (if bt260.2 = 0 then (if bt262.2 = 0 then (some (bt260.1, bt262.1, 0)) else (some (0, 0, 2))) else (some (0, 0, 2))))) = some (r1, r2, r3) := h
  clear h
  replace H := bi_ H; obtain ⟨⟨t260, t261⟩, A4, H⟩ := H
  (try dsimp only at H)
  replace H := bi_ H; obtain ⟨⟨t262, t263⟩, A5, H⟩ := H
  (try dsimp only at H)
  by_cases c6 : t261 = 0
  · rw [if_pos c6] at H
    have c6b0 : (t261 == 0) = true := beq_iff_eq.mpr c6
    have c6b1 : (t261 != 0) = false := bne_eq_false_iff_eq.mpr c6
    clear c6
    by_cases c7 : t263 = 0
    · rw [if_pos c7] at H
      have c7b0 : (t263 == 0) = true := beq_iff_eq.mpr c7
      have c7b1 : (t263 != 0) = false := bne_eq_false_iff_eq.mpr c7
      clear c7
      simp only [Option.some.injEq, Prod.mk.injEq] at H
      obtain ⟨rfl, rfl, rfl⟩ := H
      go_enter Tryd.func44, Tryd.ntmps44
      go_wp2_with (first | ((with_reducible refine gd 6 rfl ?_); refine bx_ 6 23 #[.int .i64 0, .int .i64 0] rfl rfl ?_; intro gb259 hg w8 BK259 hb; have GE259 := bz HB hg; replace HB := bs HB hb; clear hb hg) | ((with_reducible refine gc 72 rfl ?_); refine gl_ (some 15) rfl rfl Tryd.func72 ((carrefourref01_Signed.calls _ _ _ _ _ _ A4.out).mono ?_) ag; rintro e w' ⟨rfl, ⟨nd, rfl⟩⟩; refine ⟨_, rfl, ?_⟩; (try (rw [drewN_self w8]; generalize hq_ : World.drewN w8 _ = w8; have n0_ : Aside0 (w8.heap[gb259]? = some (.cells #[.int .i64 0, .int .i64 0] 23 (0, 0))) := ⟨by rw [← hq_]; exact (bx BK259)⟩; have n1_ : Aside0 (Below w.heap.size w w8) := ⟨by rw [← hq_]; exact (bf HB)⟩; clear BK259 HB hq_; have BK259 := n0_; have HB := n1_; clear n0_ n1_))) | ((with_reducible refine gc 72 rfl ?_); refine gl_ (some 20) rfl rfl Tryd.func72 ((carrefourref01_Signed.calls _ _ _ _ _ _ A5.out).mono ?_) ag; rintro e w' ⟨rfl, ⟨nd, rfl⟩⟩; refine ⟨_, rfl, ?_⟩; (try (rw [drewN_self w8]; generalize hq_ : World.drewN w8 _ = w8; have n0_ : Aside0 (w8.heap[gb259]? = some (.cells #[.int .i64 0, .int .i64 0] 23 (0, 0))) := ⟨by rw [← hq_]; exact (bx BK259)⟩; have n1_ : Aside0 (Below w.heap.size w w8) := ⟨by rw [← hq_]; exact (bf HB)⟩; clear BK259 HB hq_; have BK259 := n0_; have HB := n1_; clear n0_ n1_)); have hcz9 := k2 BK259))
      refine bodyPost_ret (results_ct rfl _ _ gb259 23 #[.int .i64 t260, .int .i64 t262] (0, 0) _ rfl (br_ BK259) Tryd.underlying23 rfl (by kernel_rfl)) rfl ?_
      exact ⟨by first | rfl | (simp [errW_none, errW_some] <;> rfl) | (simp [*, errW_none, errW_some] <;> rfl), bf HB⟩
    · rw [if_neg c7] at H
      have c7b0 : (t263 == 0) = false := beq_eq_false_iff_ne.mpr c7
      have c7b1 : (t263 != 0) = true := bne_iff_ne.mpr c7
      simp only [Option.some.injEq, Prod.mk.injEq] at H
      obtain ⟨rfl, rfl, rfl⟩ := H
      go_enter Tryd.func44, Tryd.ntmps44
      go_wp2_with (first | ((with_reducible refine gd 6 rfl ?_); refine bx_ 6 23 #[.int .i64 0, .int .i64 0] rfl rfl ?_; intro gb259 hg w10 BK259 hb; have GE259 := bz HB hg; replace HB := bs HB hb; clear hb hg) | ((with_reducible refine gc 72 rfl ?_); refine gl_ (some 15) rfl rfl Tryd.func72 ((carrefourref01_Signed.calls _ _ _ _ _ _ A4.out).mono ?_) ag; rintro e w' ⟨rfl, ⟨nd, rfl⟩⟩; refine ⟨_, rfl, ?_⟩; (try (rw [drewN_self w10]; generalize hq_ : World.drewN w10 _ = w10; have n0_ : Aside0 (w10.heap[gb259]? = some (.cells #[.int .i64 0, .int .i64 0] 23 (0, 0))) := ⟨by rw [← hq_]; exact (bx BK259)⟩; have n1_ : Aside0 (Below w.heap.size w w10) := ⟨by rw [← hq_]; exact (bf HB)⟩; clear BK259 HB hq_; have BK259 := n0_; have HB := n1_; clear n0_ n1_))) | ((with_reducible refine gc 72 rfl ?_); refine gl_ (some 20) rfl rfl Tryd.func72 ((carrefourref01_Signed.calls _ _ _ _ _ _ A5.out).mono ?_) ag; rintro e w' ⟨rfl, ⟨nd, rfl⟩⟩; refine ⟨_, rfl, ?_⟩; (try (rw [drewN_self w10]; generalize hq_ : World.drewN w10 _ = w10; have n0_ : Aside0 (w10.heap[gb259]? = some (.cells #[.int .i64 0, .int .i64 0] 23 (0, 0))) := ⟨by rw [← hq_]; exact (bx BK259)⟩; have n1_ : Aside0 (Below w.heap.size w w10) := ⟨by rw [← hq_]; exact (bf HB)⟩; clear BK259 HB hq_; have BK259 := n0_; have HB := n1_; clear n0_ n1_)); have hcz11 := k2 BK259))
      refine bodyPost_ret (results_ct rfl _ _ gb259 23 #[.int .i64 0, .int .i64 0] (0, 0) _ rfl (br_ BK259) Tryd.underlying23 rfl (by kernel_rfl)) rfl ?_
      exact ⟨by first | rfl | (simp [errW_none, errW_some] <;> rfl) | (simp [*, errW_none, errW_some] <;> rfl), bf HB⟩
  · rw [if_neg c6] at H
    have c6b0 : (t261 == 0) = false := beq_eq_false_iff_ne.mpr c6
    have c6b1 : (t261 != 0) = true := bne_iff_ne.mpr c6
    simp only [Option.some.injEq, Prod.mk.injEq] at H
    obtain ⟨rfl, rfl, rfl⟩ := H
    go_enter Tryd.func44, Tryd.ntmps44
    go_wp2_with (first | ((with_reducible refine gd 6 rfl ?_); refine bx_ 6 23 #[.int .i64 0, .int .i64 0] rfl rfl ?_; intro gb259 hg w12 BK259 hb; have GE259 := bz HB hg; replace HB := bs HB hb; clear hb hg) | ((with_reducible refine gc 72 rfl ?_); refine gl_ (some 15) rfl rfl Tryd.func72 ((carrefourref01_Signed.calls _ _ _ _ _ _ A4.out).mono ?_) ag; rintro e w' ⟨rfl, ⟨nd, rfl⟩⟩; refine ⟨_, rfl, ?_⟩; (try (rw [drewN_self w12]; generalize hq_ : World.drewN w12 _ = w12; have n0_ : Aside0 (w12.heap[gb259]? = some (.cells #[.int .i64 0, .int .i64 0] 23 (0, 0))) := ⟨by rw [← hq_]; exact (bx BK259)⟩; have n1_ : Aside0 (Below w.heap.size w w12) := ⟨by rw [← hq_]; exact (bf HB)⟩; clear BK259 HB hq_; have BK259 := n0_; have HB := n1_; clear n0_ n1_))) | ((with_reducible refine gc 72 rfl ?_); refine gl_ (some 20) rfl rfl Tryd.func72 ((carrefourref01_Signed.calls _ _ _ _ _ _ A5.out).mono ?_) ag; rintro e w' ⟨rfl, ⟨nd, rfl⟩⟩; refine ⟨_, rfl, ?_⟩; (try (rw [drewN_self w12]; generalize hq_ : World.drewN w12 _ = w12; have n0_ : Aside0 (w12.heap[gb259]? = some (.cells #[.int .i64 0, .int .i64 0] 23 (0, 0))) := ⟨by rw [← hq_]; exact (bx BK259)⟩; have n1_ : Aside0 (Below w.heap.size w w12) := ⟨by rw [← hq_]; exact (bf HB)⟩; clear BK259 HB hq_; have BK259 := n0_; have HB := n1_; clear n0_ n1_)); have hcz13 := k2 BK259))
    refine bodyPost_ret (results_ct rfl _ _ gb259 23 #[.int .i64 0, .int .i64 0] (0, 0) _ rfl (br_ BK259) Tryd.underlying23 rfl (by kernel_rfl)) rfl ?_
    exact ⟨by first | rfl | (simp [errW_none, errW_some] <;> rfl) | (simp [*, errW_none, errW_some] <;> rfl), bf HB⟩

end Go.Proofs.YtpdmiookdmncpaaDoor.X
