/- Walks: each '.calls' says that the Go function comes to what its Lean function tells. Conditions: as each theorem's head says. -/
import Derived.Test.YtpdmiookdmncpaaDoorXD
import Derived.Test.YtpdmiookdmncpaaDoorX0
import Derived.Test.YtpdmiookdmncpaaDoorX9
namespace Go.Proofs.YtpdmiookdmncpaaDoor.X
open Go.RowKit Go.Proofs.YtpdmiookdmncpaaDoorW.PrintWords Go.Proofs.YtpdmiookdmncpaaDoorW.PrintLast Go.Proofs.YtpdmiookdmncpaaDoorW.PrintMore
attribute [local go_sem] max2_int min2_int max_two min_two max_three min_three max_four min_four   -- for this text's walks alone
set_option linter.unusedVariables false
set_option maxHeartbeats 8000000
set_option maxRecDepth 100000
set_option linter.unusedSimpArgs false

/-! ### carrefourlaw12_awake: function 12 -/
theorem carrefourlaw12_awake.calls (k : Nat)  (r : Bool) (w : World) (h : carrefourlaw12_awake.f k  = some r) (hT : TabOK w) :
    Calls Tryd.prog 12 #[] w fun e w' => e = .returned (.bool r) ∧ Below w.heap.size w w' := by
  have GT := Aside0.mk hT
  clear hT
  have hu23 := Tryd.underlying23
  have hu32 := Tryd.underlying32
  have HB := Aside0.mk (Below.refl w.heap.size w)
  have H : ((webster_Cycle.f k 120 1 2).bind fun bt267 => ((webster_Allowed.f 300 900 70 0 0 ([] : List (S55)) ([] : List (S120)) 0 0 600).bind fun bt271 => ((webster_Allowed.f 300 900 70 0 0 ([] : List (S55)) ([] : List (S120)) 0 0 870).bind fun bt273 => (if bt267.2.2 = 0 then (if bt267.2.1 = true then (if bt267.1 = 460 then (if bt271.1 = 650 then (if bt271.2 = true then (if bt273.1 = 860 then (if bt273.2 = true then (some false) else ((webster_Count.f 300 900 70 0 0 ([] : List (S55)) ([] : List (S120)) 0 0).bind fun t275 => (some (t275 == 9)))) else (some false)) else (some false)) else (some false)) else (some false)) else (some false)) else (some false))))) = some r := h
  clear h
  replace H := bi_ H; obtain ⟨⟨t267, t268, t269⟩, A1, H⟩ := H
  (try dsimp only at H)
  replace H := bi_ H; obtain ⟨⟨t271, t272⟩, A2, H⟩ := H
  (try dsimp only at H)
  replace H := bi_ H; obtain ⟨⟨t273, t274⟩, A3, H⟩ := H
  (try dsimp only at H)
  by_cases c4 : t269 = 0
  · rw [if_pos c4] at H
    have c4b0 : (t269 == 0) = true := beq_iff_eq.mpr c4
    have c4b1 : (t269 != 0) = false := bne_eq_false_iff_eq.mpr c4
    clear c4
    by_cases c5 : t268 = true
    · subst c5
      have H1 : (if t267 = 460 then (if t271 = 650 then (if t272 = true then (if t273 = 860 then (if t274 = true then (some false) else ((webster_Count.f 300 900 70 0 0 ([] : List (S55)) ([] : List (S120)) 0 0).bind fun t275 => (some (t275 == 9)))) else (some false)) else (some false)) else (some false)) else (some false)) = some r := by rw [if_pos rfl] at H; exact H
      clear H
      have H := H1
      clear H1
      by_cases c6 : t267 = 460
      · rw [if_pos c6] at H
        have c6b0 : (t267 == 460) = true := beq_iff_eq.mpr c6
        have c6b1 : (t267 != 460) = false := bne_eq_false_iff_eq.mpr c6
        clear c6
        by_cases c7 : t271 = 650
        · rw [if_pos c7] at H
          have c7b0 : (t271 == 650) = true := beq_iff_eq.mpr c7
          have c7b1 : (t271 != 650) = false := bne_eq_false_iff_eq.mpr c7
          clear c7
          by_cases c8 : t272 = true
          · subst c8
            have H1 : (if t273 = 860 then (if t274 = true then (some false) else ((webster_Count.f 300 900 70 0 0 ([] : List (S55)) ([] : List (S120)) 0 0).bind fun t275 => (some (t275 == 9)))) else (some false)) = some r := by rw [if_pos rfl] at H; exact H
            clear H
            have H := H1
            clear H1
            by_cases c9 : t273 = 860
            · rw [if_pos c9] at H
              have c9b0 : (t273 == 860) = true := beq_iff_eq.mpr c9
              have c9b1 : (t273 != 860) = false := bne_eq_false_iff_eq.mpr c9
              clear c9
              by_cases c10 : t274 = true
              · subst c10
                have H1 : (some false) = some r := by rw [if_pos rfl] at H; exact H
                clear H
                have H := H1
                clear H1
                obtain rfl := Option.some.inj H
                go_enter Tryd.func12, Tryd.ntmps12
                go_wp2_with (first | ((with_reducible refine gc 10 rfl ?_); refine gm_ (some 11) rfl rfl Tryd.func10 (webster_Cycle.calls _ _ _ _ _ _ _ _ A1.out (tt GT)) ag ?_; intro w11 hb; replace HB := bs HB hb; (try clear hb)) | ((with_reducible refine gd 4 rfl ?_); refine bx_ 4 32 #[.int .i64 0, .int .i64 0, .int .i64 0, .int .i64 0, .int .i64 0, .slice none 0 0, .slice none 0 0, .int .i64 0, .int .i64 0] rfl rfl ?_; intro gb270 hg w12 BK270 hb; have GE270 := bz HB hg; replace HB := bs HB hb; clear hb hg; have hcz13 := k9 BK270) | ((with_reducible refine gate_callee (f := 13) rfl ?_); refine goesL_ (some 18) rfl rfl Tryd.func13 (by kernel_rfl) rfl #[.agg #[.int .i64 300, .int .i64 900, .int .i64 70, .int .i64 0, .int .i64 0, .slice none 0 0, .slice none 0 0, .int .i64 0, .int .i64 0], .int .i64 600] rfl ag ?_; (refine (webster_Allowed.calls _ _ _ _ _ _ _ ([] : List (S55)) _ _ ([] : List (S120)) _ _ _ _ _ _ ?side1 ?side2 ?side3 ?side4 A2.out).mono ?_); (case side1 => exact Kd.C_nil _ _); (case side2 => exact Nat.le_refl _); (case side3 => exact Kd.C_nil _ _); (case side4 => exact Nat.le_refl _); rintro e w14 ⟨rfl, hb⟩; refine ⟨_, rfl, ?_⟩; replace BK270 := bp_ #[.int .i64 300, .int .i64 900, .int .i64 70, .int .i64 0, .int .i64 0, .slice none 0 0, .slice none 0 0, .int .i64 0, .int .i64 0] BK270 hb; replace HB := bs HB hb; (try clear hb); have hcz15 := k9 BK270) | ((with_reducible refine gate_callee (f := 13) rfl ?_); refine goesL_ (some 23) rfl rfl Tryd.func13 (by kernel_rfl) rfl #[.agg #[.int .i64 300, .int .i64 900, .int .i64 70, .int .i64 0, .int .i64 0, .slice none 0 0, .slice none 0 0, .int .i64 0, .int .i64 0], .int .i64 870] rfl ag ?_; (refine (webster_Allowed.calls _ _ _ _ _ _ _ ([] : List (S55)) _ _ ([] : List (S120)) _ _ _ _ _ _ ?side1 ?side2 ?side3 ?side4 A3.out).mono ?_); (case side1 => exact Kd.C_nil _ _); (case side2 => exact Nat.le_refl _); (case side3 => exact Kd.C_nil _ _); (case side4 => exact Nat.le_refl _); rintro e w16 ⟨rfl, hb⟩; refine ⟨_, rfl, ?_⟩; replace HB := bs HB hb; (try clear hb)))
                go_ret
                exact ⟨ae, bf HB⟩
              · replace c10 := Bool.eq_false_iff.mpr c10
                subst c10
                have H1 : ((webster_Count.f 300 900 70 0 0 ([] : List (S55)) ([] : List (S120)) 0 0).bind fun t275 => (some (t275 == 9))) = some r := by rw [if_neg (show ¬ (false = true) by decide)] at H; exact H
                clear H
                have H := H1
                clear H1
                replace H := bi_ H; obtain ⟨t275, A17, H⟩ := H
                (try dsimp only at H)
                obtain rfl := Option.some.inj H
                go_enter Tryd.func12, Tryd.ntmps12
                go_wp2_with (first | ((with_reducible refine gc 10 rfl ?_); refine gm_ (some 11) rfl rfl Tryd.func10 (webster_Cycle.calls _ _ _ _ _ _ _ _ A1.out (tt GT)) ag ?_; intro w18 hb; replace HB := bs HB hb; (try clear hb)) | ((with_reducible refine gd 4 rfl ?_); refine bx_ 4 32 #[.int .i64 0, .int .i64 0, .int .i64 0, .int .i64 0, .int .i64 0, .slice none 0 0, .slice none 0 0, .int .i64 0, .int .i64 0] rfl rfl ?_; intro gb270 hg w19 BK270 hb; have GE270 := bz HB hg; replace HB := bs HB hb; clear hb hg; have hcz20 := k9 BK270) | ((with_reducible refine gate_callee (f := 13) rfl ?_); refine goesL_ (some 18) rfl rfl Tryd.func13 (by kernel_rfl) rfl #[.agg #[.int .i64 300, .int .i64 900, .int .i64 70, .int .i64 0, .int .i64 0, .slice none 0 0, .slice none 0 0, .int .i64 0, .int .i64 0], .int .i64 600] rfl ag ?_; (refine (webster_Allowed.calls _ _ _ _ _ _ _ ([] : List (S55)) _ _ ([] : List (S120)) _ _ _ _ _ _ ?side1 ?side2 ?side3 ?side4 A2.out).mono ?_); (case side1 => exact Kd.C_nil _ _); (case side2 => exact Nat.le_refl _); (case side3 => exact Kd.C_nil _ _); (case side4 => exact Nat.le_refl _); rintro e w21 ⟨rfl, hb⟩; refine ⟨_, rfl, ?_⟩; replace BK270 := bp_ #[.int .i64 300, .int .i64 900, .int .i64 70, .int .i64 0, .int .i64 0, .slice none 0 0, .slice none 0 0, .int .i64 0, .int .i64 0] BK270 hb; replace HB := bs HB hb; (try clear hb); have hcz22 := k9 BK270) | ((with_reducible refine gate_callee (f := 13) rfl ?_); refine goesL_ (some 23) rfl rfl Tryd.func13 (by kernel_rfl) rfl #[.agg #[.int .i64 300, .int .i64 900, .int .i64 70, .int .i64 0, .int .i64 0, .slice none 0 0, .slice none 0 0, .int .i64 0, .int .i64 0], .int .i64 870] rfl ag ?_; (refine (webster_Allowed.calls _ _ _ _ _ _ _ ([] : List (S55)) _ _ ([] : List (S120)) _ _ _ _ _ _ ?side1 ?side2 ?side3 ?side4 A3.out).mono ?_); (case side1 => exact Kd.C_nil _ _); (case side2 => exact Nat.le_refl _); (case side3 => exact Kd.C_nil _ _); (case side4 => exact Nat.le_refl _); rintro e w23 ⟨rfl, hb⟩; refine ⟨_, rfl, ?_⟩; replace BK270 := bb BK270 hb; replace HB := bs HB hb; (try clear hb); have hcz24 := k9 BK270) | (go_at_call 15; (refine (webster_Count.calls _ _ _ _ _ _ _ ([] : List (S55)) _ _ ([] : List (S120)) _ _ _ _ ?side1 ?side2 ?side3 ?side4 A17.out).mono ?_); (case side1 => exact Kd.C_nil _ _); (case side2 => exact Nat.le_refl _); (case side3 => exact Kd.C_nil _ _); (case side4 => exact Nat.le_refl _); rintro e w25 ⟨rfl, hb⟩; replace HB := bs HB hb; (try clear hb)))
                go_ret
                exact ⟨ae, bf HB⟩
            · rw [if_neg c9] at H
              have c9b0 : (t273 == 860) = false := beq_eq_false_iff_ne.mpr c9
              have c9b1 : (t273 != 860) = true := bne_iff_ne.mpr c9
              obtain rfl := Option.some.inj H
              go_enter Tryd.func12, Tryd.ntmps12
              go_wp2_with (first | ((with_reducible refine gc 10 rfl ?_); refine gm_ (some 11) rfl rfl Tryd.func10 (webster_Cycle.calls _ _ _ _ _ _ _ _ A1.out (tt GT)) ag ?_; intro w26 hb; replace HB := bs HB hb; (try clear hb)) | ((with_reducible refine gd 4 rfl ?_); refine bx_ 4 32 #[.int .i64 0, .int .i64 0, .int .i64 0, .int .i64 0, .int .i64 0, .slice none 0 0, .slice none 0 0, .int .i64 0, .int .i64 0] rfl rfl ?_; intro gb270 hg w27 BK270 hb; have GE270 := bz HB hg; replace HB := bs HB hb; clear hb hg; have hcz28 := k9 BK270) | ((with_reducible refine gate_callee (f := 13) rfl ?_); refine goesL_ (some 18) rfl rfl Tryd.func13 (by kernel_rfl) rfl #[.agg #[.int .i64 300, .int .i64 900, .int .i64 70, .int .i64 0, .int .i64 0, .slice none 0 0, .slice none 0 0, .int .i64 0, .int .i64 0], .int .i64 600] rfl ag ?_; (refine (webster_Allowed.calls _ _ _ _ _ _ _ ([] : List (S55)) _ _ ([] : List (S120)) _ _ _ _ _ _ ?side1 ?side2 ?side3 ?side4 A2.out).mono ?_); (case side1 => exact Kd.C_nil _ _); (case side2 => exact Nat.le_refl _); (case side3 => exact Kd.C_nil _ _); (case side4 => exact Nat.le_refl _); rintro e w29 ⟨rfl, hb⟩; refine ⟨_, rfl, ?_⟩; replace BK270 := bp_ #[.int .i64 300, .int .i64 900, .int .i64 70, .int .i64 0, .int .i64 0, .slice none 0 0, .slice none 0 0, .int .i64 0, .int .i64 0] BK270 hb; replace HB := bs HB hb; (try clear hb); have hcz30 := k9 BK270) | ((with_reducible refine gate_callee (f := 13) rfl ?_); refine goesL_ (some 23) rfl rfl Tryd.func13 (by kernel_rfl) rfl #[.agg #[.int .i64 300, .int .i64 900, .int .i64 70, .int .i64 0, .int .i64 0, .slice none 0 0, .slice none 0 0, .int .i64 0, .int .i64 0], .int .i64 870] rfl ag ?_; (refine (webster_Allowed.calls _ _ _ _ _ _ _ ([] : List (S55)) _ _ ([] : List (S120)) _ _ _ _ _ _ ?side1 ?side2 ?side3 ?side4 A3.out).mono ?_); (case side1 => exact Kd.C_nil _ _); (case side2 => exact Nat.le_refl _); (case side3 => exact Kd.C_nil _ _); (case side4 => exact Nat.le_refl _); rintro e w31 ⟨rfl, hb⟩; refine ⟨_, rfl, ?_⟩; replace HB := bs HB hb; (try clear hb)))
              go_ret
              exact ⟨ae, bf HB⟩
          · replace c8 := Bool.eq_false_iff.mpr c8
            subst c8
            have H1 : (some false) = some r := by rw [if_neg (show ¬ (false = true) by decide)] at H; exact H
            clear H
            have H := H1
            clear H1
            obtain rfl := Option.some.inj H
            go_enter Tryd.func12, Tryd.ntmps12
            go_wp2_with (first | ((with_reducible refine gc 10 rfl ?_); refine gm_ (some 11) rfl rfl Tryd.func10 (webster_Cycle.calls _ _ _ _ _ _ _ _ A1.out (tt GT)) ag ?_; intro w32 hb; replace HB := bs HB hb; (try clear hb)) | ((with_reducible refine gd 4 rfl ?_); refine bx_ 4 32 #[.int .i64 0, .int .i64 0, .int .i64 0, .int .i64 0, .int .i64 0, .slice none 0 0, .slice none 0 0, .int .i64 0, .int .i64 0] rfl rfl ?_; intro gb270 hg w33 BK270 hb; have GE270 := bz HB hg; replace HB := bs HB hb; clear hb hg; have hcz34 := k9 BK270) | ((with_reducible refine gate_callee (f := 13) rfl ?_); refine goesL_ (some 18) rfl rfl Tryd.func13 (by kernel_rfl) rfl #[.agg #[.int .i64 300, .int .i64 900, .int .i64 70, .int .i64 0, .int .i64 0, .slice none 0 0, .slice none 0 0, .int .i64 0, .int .i64 0], .int .i64 600] rfl ag ?_; (refine (webster_Allowed.calls _ _ _ _ _ _ _ ([] : List (S55)) _ _ ([] : List (S120)) _ _ _ _ _ _ ?side1 ?side2 ?side3 ?side4 A2.out).mono ?_); (case side1 => exact Kd.C_nil _ _); (case side2 => exact Nat.le_refl _); (case side3 => exact Kd.C_nil _ _); (case side4 => exact Nat.le_refl _); rintro e w35 ⟨rfl, hb⟩; refine ⟨_, rfl, ?_⟩; replace BK270 := bp_ #[.int .i64 300, .int .i64 900, .int .i64 70, .int .i64 0, .int .i64 0, .slice none 0 0, .slice none 0 0, .int .i64 0, .int .i64 0] BK270 hb; replace HB := bs HB hb; (try clear hb); have hcz36 := k9 BK270) | ((with_reducible refine gate_callee (f := 13) rfl ?_); refine goesL_ (some 23) rfl rfl Tryd.func13 (by kernel_rfl) rfl #[.agg #[.int .i64 300, .int .i64 900, .int .i64 70, .int .i64 0, .int .i64 0, .slice none 0 0, .slice none 0 0, .int .i64 0, .int .i64 0], .int .i64 870] rfl ag ?_; (refine (webster_Allowed.calls _ _ _ _ _ _ _ ([] : List (S55)) _ _ ([] : List (S120)) _ _ _ _ _ _ ?side1 ?side2 ?side3 ?side4 A3.out).mono ?_); (case side1 => exact Kd.C_nil _ _); (case side2 => exact Nat.le_refl _); (case side3 => exact Kd.C_nil _ _); (case side4 => exact Nat.le_refl _); rintro e w37 ⟨rfl, hb⟩; refine ⟨_, rfl, ?_⟩; replace HB := bs HB hb; (try clear hb)))
            go_ret
            exact ⟨ae, bf HB⟩
        · rw [if_neg c7] at H
          have c7b0 : (t271 == 650) = false := beq_eq_false_iff_ne.mpr c7
          have c7b1 : (t271 != 650) = true := bne_iff_ne.mpr c7
          obtain rfl := Option.some.inj H
          go_enter Tryd.func12, Tryd.ntmps12
          go_wp2_with (first | ((with_reducible refine gc 10 rfl ?_); refine gm_ (some 11) rfl rfl Tryd.func10 (webster_Cycle.calls _ _ _ _ _ _ _ _ A1.out (tt GT)) ag ?_; intro w38 hb; replace HB := bs HB hb; (try clear hb)) | ((with_reducible refine gd 4 rfl ?_); refine bx_ 4 32 #[.int .i64 0, .int .i64 0, .int .i64 0, .int .i64 0, .int .i64 0, .slice none 0 0, .slice none 0 0, .int .i64 0, .int .i64 0] rfl rfl ?_; intro gb270 hg w39 BK270 hb; have GE270 := bz HB hg; replace HB := bs HB hb; clear hb hg; have hcz40 := k9 BK270) | ((with_reducible refine gate_callee (f := 13) rfl ?_); refine goesL_ (some 18) rfl rfl Tryd.func13 (by kernel_rfl) rfl #[.agg #[.int .i64 300, .int .i64 900, .int .i64 70, .int .i64 0, .int .i64 0, .slice none 0 0, .slice none 0 0, .int .i64 0, .int .i64 0], .int .i64 600] rfl ag ?_; (refine (webster_Allowed.calls _ _ _ _ _ _ _ ([] : List (S55)) _ _ ([] : List (S120)) _ _ _ _ _ _ ?side1 ?side2 ?side3 ?side4 A2.out).mono ?_); (case side1 => exact Kd.C_nil _ _); (case side2 => exact Nat.le_refl _); (case side3 => exact Kd.C_nil _ _); (case side4 => exact Nat.le_refl _); rintro e w41 ⟨rfl, hb⟩; refine ⟨_, rfl, ?_⟩; replace BK270 := bp_ #[.int .i64 300, .int .i64 900, .int .i64 70, .int .i64 0, .int .i64 0, .slice none 0 0, .slice none 0 0, .int .i64 0, .int .i64 0] BK270 hb; replace HB := bs HB hb; (try clear hb); have hcz42 := k9 BK270) | ((with_reducible refine gate_callee (f := 13) rfl ?_); refine goesL_ (some 23) rfl rfl Tryd.func13 (by kernel_rfl) rfl #[.agg #[.int .i64 300, .int .i64 900, .int .i64 70, .int .i64 0, .int .i64 0, .slice none 0 0, .slice none 0 0, .int .i64 0, .int .i64 0], .int .i64 870] rfl ag ?_; (refine (webster_Allowed.calls _ _ _ _ _ _ _ ([] : List (S55)) _ _ ([] : List (S120)) _ _ _ _ _ _ ?side1 ?side2 ?side3 ?side4 A3.out).mono ?_); (case side1 => exact Kd.C_nil _ _); (case side2 => exact Nat.le_refl _); (case side3 => exact Kd.C_nil _ _); (case side4 => exact Nat.le_refl _); rintro e w43 ⟨rfl, hb⟩; refine ⟨_, rfl, ?_⟩; replace HB := bs HB hb; (try clear hb)))
          go_ret
          exact ⟨ae, bf HB⟩
      · rw [if_neg c6] at H
        have c6b0 : (t267 == 460) = false := beq_eq_false_iff_ne.mpr c6
        have c6b1 : (t267 != 460) = true := bne_iff_ne.mpr c6
        obtain rfl := Option.some.inj H
        go_enter Tryd.func12, Tryd.ntmps12
        go_wp2_with (first | ((with_reducible refine gc 10 rfl ?_); refine gm_ (some 11) rfl rfl Tryd.func10 (webster_Cycle.calls _ _ _ _ _ _ _ _ A1.out (tt GT)) ag ?_; intro w44 hb; replace HB := bs HB hb; (try clear hb)) | ((with_reducible refine gd 4 rfl ?_); refine bx_ 4 32 #[.int .i64 0, .int .i64 0, .int .i64 0, .int .i64 0, .int .i64 0, .slice none 0 0, .slice none 0 0, .int .i64 0, .int .i64 0] rfl rfl ?_; intro gb270 hg w45 BK270 hb; have GE270 := bz HB hg; replace HB := bs HB hb; clear hb hg; have hcz46 := k9 BK270) | ((with_reducible refine gate_callee (f := 13) rfl ?_); refine goesL_ (some 18) rfl rfl Tryd.func13 (by kernel_rfl) rfl #[.agg #[.int .i64 300, .int .i64 900, .int .i64 70, .int .i64 0, .int .i64 0, .slice none 0 0, .slice none 0 0, .int .i64 0, .int .i64 0], .int .i64 600] rfl ag ?_; (refine (webster_Allowed.calls _ _ _ _ _ _ _ ([] : List (S55)) _ _ ([] : List (S120)) _ _ _ _ _ _ ?side1 ?side2 ?side3 ?side4 A2.out).mono ?_); (case side1 => exact Kd.C_nil _ _); (case side2 => exact Nat.le_refl _); (case side3 => exact Kd.C_nil _ _); (case side4 => exact Nat.le_refl _); rintro e w47 ⟨rfl, hb⟩; refine ⟨_, rfl, ?_⟩; replace BK270 := bp_ #[.int .i64 300, .int .i64 900, .int .i64 70, .int .i64 0, .int .i64 0, .slice none 0 0, .slice none 0 0, .int .i64 0, .int .i64 0] BK270 hb; replace HB := bs HB hb; (try clear hb); have hcz48 := k9 BK270) | ((with_reducible refine gate_callee (f := 13) rfl ?_); refine goesL_ (some 23) rfl rfl Tryd.func13 (by kernel_rfl) rfl #[.agg #[.int .i64 300, .int .i64 900, .int .i64 70, .int .i64 0, .int .i64 0, .slice none 0 0, .slice none 0 0, .int .i64 0, .int .i64 0], .int .i64 870] rfl ag ?_; (refine (webster_Allowed.calls _ _ _ _ _ _ _ ([] : List (S55)) _ _ ([] : List (S120)) _ _ _ _ _ _ ?side1 ?side2 ?side3 ?side4 A3.out).mono ?_); (case side1 => exact Kd.C_nil _ _); (case side2 => exact Nat.le_refl _); (case side3 => exact Kd.C_nil _ _); (case side4 => exact Nat.le_refl _); rintro e w49 ⟨rfl, hb⟩; refine ⟨_, rfl, ?_⟩; replace HB := bs HB hb; (try clear hb)))
        go_ret
        exact ⟨ae, bf HB⟩
    · replace c5 := Bool.eq_false_iff.mpr c5
      subst c5
      have H1 : (some false) = some r := by rw [if_neg (show ¬ (false = true) by decide)] at H; exact H
      clear H
      have H := H1
      clear H1
      obtain rfl := Option.some.inj H
      go_enter Tryd.func12, Tryd.ntmps12
      go_wp2_with (first | ((with_reducible refine gc 10 rfl ?_); refine gm_ (some 11) rfl rfl Tryd.func10 (webster_Cycle.calls _ _ _ _ _ _ _ _ A1.out (tt GT)) ag ?_; intro w50 hb; replace HB := bs HB hb; (try clear hb)) | ((with_reducible refine gd 4 rfl ?_); refine bx_ 4 32 #[.int .i64 0, .int .i64 0, .int .i64 0, .int .i64 0, .int .i64 0, .slice none 0 0, .slice none 0 0, .int .i64 0, .int .i64 0] rfl rfl ?_; intro gb270 hg w51 BK270 hb; have GE270 := bz HB hg; replace HB := bs HB hb; clear hb hg; have hcz52 := k9 BK270) | ((with_reducible refine gate_callee (f := 13) rfl ?_); refine goesL_ (some 18) rfl rfl Tryd.func13 (by kernel_rfl) rfl #[.agg #[.int .i64 300, .int .i64 900, .int .i64 70, .int .i64 0, .int .i64 0, .slice none 0 0, .slice none 0 0, .int .i64 0, .int .i64 0], .int .i64 600] rfl ag ?_; (refine (webster_Allowed.calls _ _ _ _ _ _ _ ([] : List (S55)) _ _ ([] : List (S120)) _ _ _ _ _ _ ?side1 ?side2 ?side3 ?side4 A2.out).mono ?_); (case side1 => exact Kd.C_nil _ _); (case side2 => exact Nat.le_refl _); (case side3 => exact Kd.C_nil _ _); (case side4 => exact Nat.le_refl _); rintro e w53 ⟨rfl, hb⟩; refine ⟨_, rfl, ?_⟩; replace BK270 := bp_ #[.int .i64 300, .int .i64 900, .int .i64 70, .int .i64 0, .int .i64 0, .slice none 0 0, .slice none 0 0, .int .i64 0, .int .i64 0] BK270 hb; replace HB := bs HB hb; (try clear hb); have hcz54 := k9 BK270) | ((with_reducible refine gate_callee (f := 13) rfl ?_); refine goesL_ (some 23) rfl rfl Tryd.func13 (by kernel_rfl) rfl #[.agg #[.int .i64 300, .int .i64 900, .int .i64 70, .int .i64 0, .int .i64 0, .slice none 0 0, .slice none 0 0, .int .i64 0, .int .i64 0], .int .i64 870] rfl ag ?_; (refine (webster_Allowed.calls _ _ _ _ _ _ _ ([] : List (S55)) _ _ ([] : List (S120)) _ _ _ _ _ _ ?side1 ?side2 ?side3 ?side4 A3.out).mono ?_); (case side1 => exact Kd.C_nil _ _); (case side2 => exact Nat.le_refl _); (case side3 => exact Kd.C_nil _ _); (case side4 => exact Nat.le_refl _); rintro e w55 ⟨rfl, hb⟩; refine ⟨_, rfl, ?_⟩; replace HB := bs HB hb; (try clear hb)))
      go_ret
      exact ⟨ae, bf HB⟩
  · rw [if_neg c4] at H
    have c4b0 : (t269 == 0) = false := beq_eq_false_iff_ne.mpr c4
    have c4b1 : (t269 != 0) = true := bne_iff_ne.mpr c4
    obtain rfl := Option.some.inj H
    go_enter Tryd.func12, Tryd.ntmps12
    go_wp2_with (first | ((with_reducible refine gc 10 rfl ?_); refine gm_ (some 11) rfl rfl Tryd.func10 (webster_Cycle.calls _ _ _ _ _ _ _ _ A1.out (tt GT)) ag ?_; intro w56 hb; replace HB := bs HB hb; (try clear hb)) | ((with_reducible refine gd 4 rfl ?_); refine bx_ 4 32 #[.int .i64 0, .int .i64 0, .int .i64 0, .int .i64 0, .int .i64 0, .slice none 0 0, .slice none 0 0, .int .i64 0, .int .i64 0] rfl rfl ?_; intro gb270 hg w57 BK270 hb; have GE270 := bz HB hg; replace HB := bs HB hb; clear hb hg; have hcz58 := k9 BK270) | ((with_reducible refine gate_callee (f := 13) rfl ?_); refine goesL_ (some 18) rfl rfl Tryd.func13 (by kernel_rfl) rfl #[.agg #[.int .i64 300, .int .i64 900, .int .i64 70, .int .i64 0, .int .i64 0, .slice none 0 0, .slice none 0 0, .int .i64 0, .int .i64 0], .int .i64 600] rfl ag ?_; (refine (webster_Allowed.calls _ _ _ _ _ _ _ ([] : List (S55)) _ _ ([] : List (S120)) _ _ _ _ _ _ ?side1 ?side2 ?side3 ?side4 A2.out).mono ?_); (case side1 => exact Kd.C_nil _ _); (case side2 => exact Nat.le_refl _); (case side3 => exact Kd.C_nil _ _); (case side4 => exact Nat.le_refl _); rintro e w59 ⟨rfl, hb⟩; refine ⟨_, rfl, ?_⟩; replace BK270 := bp_ #[.int .i64 300, .int .i64 900, .int .i64 70, .int .i64 0, .int .i64 0, .slice none 0 0, .slice none 0 0, .int .i64 0, .int .i64 0] BK270 hb; replace HB := bs HB hb; (try clear hb); have hcz60 := k9 BK270) | ((with_reducible refine gate_callee (f := 13) rfl ?_); refine goesL_ (some 23) rfl rfl Tryd.func13 (by kernel_rfl) rfl #[.agg #[.int .i64 300, .int .i64 900, .int .i64 70, .int .i64 0, .int .i64 0, .slice none 0 0, .slice none 0 0, .int .i64 0, .int .i64 0], .int .i64 870] rfl ag ?_; (refine (webster_Allowed.calls _ _ _ _ _ _ _ ([] : List (S55)) _ _ ([] : List (S120)) _ _ _ _ _ _ ?side1 ?side2 ?side3 ?side4 A3.out).mono ?_); (case side1 => exact Kd.C_nil _ _); (case side2 => exact Nat.le_refl _); (case side3 => exact Kd.C_nil _ _); (case side4 => exact Nat.le_refl _); rintro e w61 ⟨rfl, hb⟩; refine ⟨_, rfl, ?_⟩; replace HB := bs HB hb; (try clear hb)))
    go_ret
    exact ⟨ae, bf HB⟩


/-! ### webster_Lost: function 21 -/
theorem webster_Lost_1.calls (w0 : World) (g : Nat) (s : Int) (x : S46) (A6 : Option Addr) (c6 : Nat) (w : World) (hk : w.heap[g]? = some (.cells #[.int .i64 s] 2 (0, 0))) (hb0 : Below w0.heap.size w0 w) (hg0 : w0.heap.size ≤ g) :
    Calls Tryd.prog 51 #[.agg #[.string x.f0, .int .i64 x.f1, .int .i64 x.f2, .int .i64 x.f3, .int .i64 x.f4.f0, .int .i64 x.f4.f1, .slice A6 x.f5.length c6], .pointer (some ⟨g, 0, none⟩)] w fun e w' => e = .returned (.tuple #[]) ∧ w'.heap[g]? = some (.cells #[.int .i64 (wrap64 (s + wrap64 (x.f2 + x.f3)))] 2 (0, 0)) ∧ Below w0.heap.size w0 w' := by
  have HB := Aside0.mk hb0
  have BK1 := Aside0.mk hk
  have GE1 := Aside0.mk hg0
  clear hb0 hk hg0
  obtain ⟨j, hj⟩ : ∃ j, wrap64 (x.f2 + x.f3) = j := ⟨_, rfl⟩
  have hj2 : IntKind.i64.wrap (x.f2 + x.f3) = j := (i64_w _).trans hj
  obtain ⟨m, hm⟩ : ∃ m, wrap64 (s + j) = m := ⟨_, rfl⟩
  have hm2 : IntKind.i64.wrap (s + j) = m := (i64_w _).trans hm
  rw [hj, hm]
  have HJ := Aside0.mk hj
  have HM := Aside0.mk hm
  clear hj hm
  go_enter Tryd.func51, Tryd.ntmps51
  go_wp2_with (first | ((with_reducible refine gd 2 rfl ?_); refine bx_ 2 46 #[.string x.f0, .int .i64 x.f1, .int .i64 x.f2, .int .i64 x.f3, .int .i64 x.f4.f0, .int .i64 x.f4.f1, .slice A6 x.f5.length c6] rfl rfl ?_; intro gb hg w1 BK2 hb; replace BK1 := bb BK1 hb; replace HB := bs HB hb; clear hb hg; have hcz := k7 BK2; have hcg := k1 BK1))
  go_end0
  exact ⟨rfl, one_setCell BK1.out, below_set (bf HB) GE1.out⟩
theorem webster_Lost.calls (k : Nat) (A0 : Option Addr) (c0 : Nat) (l0 : List (S46)) (A1 : Option Addr) (c1 : Nat) (l1 : List Int) (r : Int) (w : World) (hr0 : Kd.C k46 w A0 l0.length l0) (hc0 : l0.length ≤ c0) (hr1 : Kd.C (Kd.int .i64) w A1 l1.length l1) (hc1 : l1.length ≤ c1) (h : webster_Lost.f k l0 l1 = some r) :
    Calls Tryd.prog 21 #[.slice A0 l0.length c0, .slice A1 l1.length c1] w fun e w' => e = .returned (.int .i64 r) ∧ Below w.heap.size w w' := by
  have HR0 := Aside0.mk hr0
  have HR1 := Aside0.mk hr1
  clear hr0 hc0 hr1 hc1
  have HB := Aside0.mk (Below.refl w.heap.size w)
  have H' := Aside0.mk (show webster_Lost.l0 k l0 l1 0 0 = some r from h)
  clear h
  have hmf : ∀ (fn : Fn) (first cap : Array Value) (w : World), (Instr.makeFunc fn first cap).run Tryd.prog w = .ok (.func fn first cap) w := fun _ _ _ _ => rfl
  go_enter Tryd.func21, Tryd.ntmps21
  go_wp2_with fail
  go_loopg [12] k (fun kq v12 w' => ∃ (s x12 : Int), v12 = .int .i64 x12 ∧ Aside0 (webster_Lost.l0 kq l0 l1 s x12 = some r) ∧ Aside0 (kq ≤ k) ∧ Aside0 (w'.heap[w.heap.size]? = some (.cells #[.int .i64 s] 2 (0, 0))) ∧ Aside0 (Below w.heap.size w w'))
  case atStart => exact ⟨0, 0, (aq), H', ⟨Nat.le_refl _⟩, ⟨by first | exact one_setCell (heap_alloc_new _ _) | exact heap_alloc_new _ _⟩, ⟨by first | exact below_set (below_alloc (Below.refl _ _) _) (Nat.le_refl _) | exact below_alloc (Below.refl _ _) _⟩⟩
  case round =>
    clear H' HB
    obtain ⟨s, x12, rfl, HA, HK1, BK1, HB⟩ := hrel
    cases gk with
    | zero => exact absurd HA.out (by simp [webster_Lost.l0])
    | succ kk =>
      have H := HA.out
      clear HA
      simp only [webster_Lost.l0] at H
      by_cases c3 : x12 < (l1.length : Int)
      · rw [if_pos c3] at H
        have c3b0 : decide (x12 < (l1.length : Int)) = true := decide_eq_true c3
        by_cases c4 : 0 ≤ x12
        · rw [if_pos c4] at H
          obtain ⟨ad1, e1, hx1⟩ := Kd.at_int (Kd.C_below HR1.out HB.out) x12 c4 c3
          cases e1
          have p3 := eq_true c3
          have p4 := eq_true c4
          clear c3 c4
          by_cases c5 : 0 ≤ rd l1 x12
          · rw [if_pos c5] at H
            have c5b0 : decide (0 ≤ rd l1 x12) = true := decide_eq_true c5
            by_cases c6 : rd l1 x12 < (l0.length : Int)
            · rw [if_pos c6] at H
              have c6b0 : decide (rd l1 x12 < (l0.length : Int)) = true := decide_eq_true c6
              obtain ⟨ad2, A6, n6, e2, hy0, hy1, hy2, hy3, hy4, hy5, hy6, hl6, hi6⟩ := at_T46 (Kd.C_below HR0.out HB.out) (rd l1 x12) c5 c6
              cases e2
              have p5 := eq_true c5
              have p6 := eq_true c6
              clear c5 c6 hl6 hi6
              have H' := Aside0.mk H
              clear H
              go_wp2_with (first | (go_at_call 51; refine (webster_Lost_1.calls w w.heap.size s (rd_T46 l0 (rd l1 x12)) A6 n6 _ (bx BK1) (bf HB) (Nat.le_refl _)).mono ?_; rintro e w2 ⟨rfl, hb2, hB2⟩; clear BK1 HB hy0 hy1 hy2 hy3 hy4 hy5 hy6 hx1; have BK1 := Aside0.mk hb2; have HB := Aside0.mk hB2; clear hb2 hB2))
              go_roundg kk
              case measure => have := HK1.out; omega
              case rel => exact ⟨_, (wrap64 (x12 + 1)), (aq), H', ⟨by have := HK1.out; omega⟩, ⟨bx BK1⟩, ⟨bf HB⟩⟩
            · rw [if_neg c6] at H
              have c6b0 : decide (rd l1 x12 < (l0.length : Int)) = false := decide_eq_false c6
              clear c5 c6
              have H' := Aside0.mk H
              clear H
              go_wp2
              go_roundg kk
              case measure => have := HK1.out; omega
              case rel => exact ⟨_, (wrap64 (x12 + 1)), (aq), H', ⟨by have := HK1.out; omega⟩, ⟨bx BK1⟩, ⟨bf HB⟩⟩
          · rw [if_neg c5] at H
            have c5b0 : decide (0 ≤ rd l1 x12) = false := decide_eq_false c5
            clear c5
            have H' := Aside0.mk H
            clear H
            go_wp2
            go_roundg kk
            case measure => have := HK1.out; omega
            case rel => exact ⟨_, (wrap64 (x12 + 1)), (aq), H', ⟨by have := HK1.out; omega⟩, ⟨bx BK1⟩, ⟨bf HB⟩⟩
        · rw [if_neg c4] at H
          exact absurd H (by simp)
      · rw [if_neg c3] at H
        have c3b0 : decide (x12 < (l1.length : Int)) = false := decide_eq_false c3
        clear c3
        obtain rfl := Option.some.inj H
        have hcz := k1 BK1
        go_wp2
        go_ret
        exact ⟨ae, bf HB⟩

/-! ### carrefourref12_Lost: function 22 -/
theorem carrefourref12_Lost.calls (k : Nat) (A0 : Option Addr) (c0 : Nat) (l0 : List (S46)) (A1 : Option Addr) (c1 : Nat) (l1 : List Int) (r : Int) (w : World) (hr0 : Kd.C k46 w A0 l0.length l0) (hc0 : l0.length ≤ c0) (hr1 : Kd.C (Kd.int .i64) w A1 l1.length l1) (hc1 : l1.length ≤ c1) (h : carrefourref12_Lost.f k l0 l1 = some r) :
    Calls Tryd.prog 22 #[.slice A0 l0.length c0, .slice A1 l1.length c1] w fun e w' => e = .returned (.int .i64 r) ∧ Drawn0 w w' := by
  have HR0 := Aside0.mk hr0
  have HC0 := Aside0.mk hc0
  clear hr0 hc0
  have HR1 := Aside0.mk hr1
  have HC1 := Aside0.mk hc1
  clear hr1 hc1
  have H : (carrefourref12_Lost.l0 k l0 l1 0 0) = some r := h
  clear h
  have H' := Aside0.mk H
  clear H
  go_enter Tryd.func22, Tryd.ntmps22
  go_wp2
  repeat (go_quiet (fail); try go_wp2)
  go_loopg [5, 6] k (fun kq v5 v6 w' => ∃ (x5_1 : Int) (x6_1 : Int), v5 = .int .i64 x5_1 ∧ v6 = .int .i64 x6_1 ∧ Aside0 (carrefourref12_Lost.l0 kq l0 l1 x5_1 x6_1 = some r) ∧ Aside0 (kq ≤ k) ∧ Drawn0 w w')
  case atStart => exact ⟨(0), (0), (aq), (aq), H', ⟨Nat.le_refl _⟩, dr⟩
  case round =>
    clear H'
    try clear c1
    try clear c2
    try clear p2
    obtain ⟨x5_1, x6_1, rfl, rfl, HA, HK1, ⟨m1, rfl⟩⟩ := hrel
    cases gk with
    | zero => exact absurd HA.out (by simp [carrefourref12_Lost.l0])
    | succ k1 =>
      have H := HA.out
      clear HA
      simp only [carrefourref12_Lost.l0] at H
      by_cases c3 : x6_1 < (l1.length : Int)
      · rw [if_pos c3] at H
        have c3b0 : decide (x6_1 < (l1.length : Int)) = true := decide_eq_true c3
        clear c3
        by_cases c4 : 0 ≤ x6_1
        · rw [if_pos c4] at H
          have c4b0 : decide (0 ≤ x6_1) = true := decide_eq_true c4
          clear c4
          by_cases c5 : (rd l1 x6_1) ≥ 0
          · rw [if_pos c5] at H
            have c5b0 : decide (0 ≤ (rd l1 x6_1)) = true := decide_eq_true c5
            clear c5
            by_cases c6 : (rd l1 x6_1) < (l0.length : Int)
            · rw [if_pos c6] at H
              have c6b0 : decide ((rd l1 x6_1) < (l0.length : Int)) = true := decide_eq_true c6
              clear c6
              by_cases c7 : 0 ≤ (rd l1 x6_1)
              · rw [if_pos c7] at H
                have c7b0 : decide (0 ≤ (rd l1 x6_1)) = true := decide_eq_true c7
                clear c7
                have H' := Aside0.mk H
                clear H
                have p276 : 0 ≤ (x6_1 : Int) := of_decide_eq_true (by first | (with_reducible assumption) | assumption)
                have q276 : x6_1 < (l1.length : Int) := of_decide_eq_true (by first | (with_reducible assumption) | assumption)
                obtain ⟨ad276, e276, hx276_0⟩ := Kd.at_int HR1.out x6_1 p276 q276
                cases e276
                replace p276 := eq_true p276
                replace q276 := eq_true q276
                have p277 : 0 ≤ (x6_1 : Int) := of_decide_eq_true (by first | (with_reducible assumption) | assumption)
                have q277 : x6_1 < (l1.length : Int) := of_decide_eq_true (by first | (with_reducible assumption) | assumption)
                obtain ⟨ad277, e277, hx277_0⟩ := Kd.at_int HR1.out x6_1 p277 q277
                obtain rfl : ad276 = ad277 := (by injection e277)
                replace p277 := eq_true p277
                replace q277 := eq_true q277
                have p278 : 0 ≤ (x6_1 : Int) := of_decide_eq_true (by first | (with_reducible assumption) | assumption)
                have q278 : x6_1 < (l1.length : Int) := of_decide_eq_true (by first | (with_reducible assumption) | assumption)
                obtain ⟨ad278, e278, hx278_0⟩ := Kd.at_int HR1.out x6_1 p278 q278
                obtain rfl : ad276 = ad278 := (by injection e278)
                replace p278 := eq_true p278
                replace q278 := eq_true q278
                have p279 : 0 ≤ ((rd l1 x6_1) : Int) := of_decide_eq_true (by first | (with_reducible assumption) | assumption)
                have q279 : (rd l1 x6_1) < (l0.length : Int) := of_decide_eq_true (by first | (with_reducible assumption) | assumption)
                obtain ⟨ad279, A279_6, c279_6, e279, hx279_0, hx279_1, hx279_2, hx279_3, hx279_4, hx279_5, hx279_6, hl279_6, hi279_6⟩ := at_T46 HR0.out (rd l1 x6_1) p279 q279
                cases e279
                have HR279_6 := Aside0.mk hi279_6
                have HC279_6 := Aside0.mk hl279_6
                clear hi279_6 hl279_6
                replace p279 := eq_true p279
                replace q279 := eq_true q279
                have p280 : 0 ≤ (x6_1 : Int) := of_decide_eq_true (by first | (with_reducible assumption) | assumption)
                have q280 : x6_1 < (l1.length : Int) := of_decide_eq_true (by first | (with_reducible assumption) | assumption)
                obtain ⟨ad280, e280, hx280_0⟩ := Kd.at_int HR1.out x6_1 p280 q280
                obtain rfl : ad276 = ad280 := (by injection e280)
                replace p280 := eq_true p280
                replace q280 := eq_true q280
                have p281 : 0 ≤ ((rd l1 x6_1) : Int) := of_decide_eq_true (by first | (with_reducible assumption) | assumption)
                have q281 : (rd l1 x6_1) < (l0.length : Int) := of_decide_eq_true (by first | (with_reducible assumption) | assumption)
                obtain ⟨ad281, A281_6, c281_6, e281, hx281_0, hx281_1, hx281_2, hx281_3, hx281_4, hx281_5, hx281_6, hl281_6, hi281_6⟩ := at_T46 HR0.out (rd l1 x6_1) p281 q281
                obtain rfl : ad279 = ad281 := (by injection e281)
                have HR281_6 := Aside0.mk hi281_6
                have HC281_6 := Aside0.mk hl281_6
                clear hi281_6 hl281_6
                replace p281 := eq_true p281
                replace q281 := eq_true q281
                have ea_ := Option.some.inj (hx279_6.symm.trans hx281_6)
                injection ea_ with ea_ en_ ec_
                subst ea_
                subst ec_
                clear en_
                go_wp2
                repeat (go_quiet (fail); try go_wp2)
                go_roundg k1
                case measure => have := HK1.out; omega
                case rel => exact ⟨(wrap64 (x5_1 + (wrap64 (((rd_T46 l0 (rd l1 x6_1)).f2) + ((rd_T46 l0 (rd l1 x6_1)).f3))))), (wrap64 (x6_1 + 1)), (aq), (aq), H', ⟨by have := HK1.out; omega⟩, dr⟩
              · rw [if_neg c7] at H
                exact absurd H (by simp)
            · rw [if_neg c6] at H
              have c6b0 : decide ((rd l1 x6_1) < (l0.length : Int)) = false := decide_eq_false c6
              clear c6
              have H' := Aside0.mk H
              clear H
              have p276 : 0 ≤ (x6_1 : Int) := of_decide_eq_true (by first | (with_reducible assumption) | assumption)
              have q276 : x6_1 < (l1.length : Int) := of_decide_eq_true (by first | (with_reducible assumption) | assumption)
              obtain ⟨ad276, e276, hx276_0⟩ := Kd.at_int HR1.out x6_1 p276 q276
              cases e276
              replace p276 := eq_true p276
              replace q276 := eq_true q276
              have p277 : 0 ≤ (x6_1 : Int) := of_decide_eq_true (by first | (with_reducible assumption) | assumption)
              have q277 : x6_1 < (l1.length : Int) := of_decide_eq_true (by first | (with_reducible assumption) | assumption)
              obtain ⟨ad277, e277, hx277_0⟩ := Kd.at_int HR1.out x6_1 p277 q277
              obtain rfl : ad276 = ad277 := (by injection e277)
              replace p277 := eq_true p277
              replace q277 := eq_true q277
              go_wp2
              repeat (go_quiet (fail); try go_wp2)
              go_roundg k1
              case measure => have := HK1.out; omega
              case rel => exact ⟨(x5_1), (wrap64 (x6_1 + 1)), (aq), (aq), H', ⟨by have := HK1.out; omega⟩, dr⟩
          · rw [if_neg c5] at H
            have c5b0 : decide (0 ≤ (rd l1 x6_1)) = false := decide_eq_false c5
            clear c5
            have H' := Aside0.mk H
            clear H
            have p276 : 0 ≤ (x6_1 : Int) := of_decide_eq_true (by first | (with_reducible assumption) | assumption)
            have q276 : x6_1 < (l1.length : Int) := of_decide_eq_true (by first | (with_reducible assumption) | assumption)
            obtain ⟨ad276, e276, hx276_0⟩ := Kd.at_int HR1.out x6_1 p276 q276
            cases e276
            replace p276 := eq_true p276
            replace q276 := eq_true q276
            go_wp2
            repeat (go_quiet (fail); try go_wp2)
            go_roundg k1
            case measure => have := HK1.out; omega
            case rel => exact ⟨(x5_1), (wrap64 (x6_1 + 1)), (aq), (aq), H', ⟨by have := HK1.out; omega⟩, dr⟩
        · rw [if_neg c4] at H
          exact absurd H (by simp)
      · rw [if_neg c3] at H
        have c3b0 : decide (x6_1 < (l1.length : Int)) = false := decide_eq_false c3
        clear c3
        obtain rfl := Option.some.inj H
        go_wp2
        repeat (go_quiet (fail); try go_wp2)
        go_ret
        exact ⟨aq, dr⟩

end Go.Proofs.YtpdmiookdmncpaaDoor.X
