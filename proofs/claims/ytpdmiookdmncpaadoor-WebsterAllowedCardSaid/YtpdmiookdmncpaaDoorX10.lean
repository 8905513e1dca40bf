/- The walks of functions of the program, laid by a program of this session over the translation: each '.calls' says that the Go function comes to what its Lean function tells. Conditions: as each theorem's head says. -/
import Derived.Test.YtpdmiookdmncpaaDoorX0
import Derived.Test.YtpdmiookdmncpaaDoorX9
namespace Go.Proofs.YtpdmiookdmncpaaDoor.X
open Go.RowKit Go.Proofs.YtpdmiookdmncpaaDoorW.PrintWords Go.Proofs.YtpdmiookdmncpaaDoorW.PrintLast Go.Proofs.YtpdmiookdmncpaaDoorW.PrintMore
attribute [local go_sem] max2_int min2_int max_two min_two max_three min_three max_four min_four   -- for this text's walks alone
set_option linter.unusedVariables false
set_option linter.unusedSimpArgs false

/-! ### carrefourlaw12_awake: function 12 -/
def carrefourlaw12_awake.f (k : Nat)  : Option (Bool) := (webster_Cycle.f k 120 1 2).bind fun bt267 => ((webster_Allowed.f 300 900 70 0 0 ([] : List (S55)) ([] : List (S120)) 0 0 600).bind fun bt271 => ((webster_Allowed.f 300 900 70 0 0 ([] : List (S55)) ([] : List (S120)) 0 0 870).bind fun bt273 => (if bt267.2.2 = 0 then (if bt267.2.1 = true then (if bt267.1 = 460 then (if bt271.1 = 650 then (if bt271.2 = true then (if bt273.1 = 860 then (if bt273.2 = true then (some false) else ((webster_Count.f 300 900 70 0 0 ([] : List (S55)) ([] : List (S120)) 0 0).bind fun t275 => (some (t275 == 9)))) else (some false)) else (some false)) else (some false)) else (some false)) else (some false)) else (some false))))
theorem carrefourlaw12_awake.mono : ∀ k, LeO (carrefourlaw12_awake.f k ) (carrefourlaw12_awake.f (k + 1) ) := by
  intro  k
  unfold carrefourlaw12_awake.f
  repeat' first
      | (with_reducible exact webster_Cycle.mono _ _ _ _)
      | (with_reducible exact LeO.refl _)
      | (with_reducible exact LeO.none _)
      | (with_reducible refine LeO.ite ?_ ?_)
      | (with_reducible refine LeO.bind ?_ (fun _ => ?_))
      | exact webster_Cycle.mono _ _ _ _
      | exact LeO.none _
      | refine LeO.ite ?_ ?_
      | refine LeO.bind ?_ (fun _ => ?_)
set_option maxHeartbeats 8000000 in
set_option maxRecDepth 100000 in
theorem carrefourlaw12_awake.calls (k : Nat)  (r : Bool) (w : World) (h : carrefourlaw12_awake.f k  = some r) (hT : TabOK w) :
    Calls Tryd.prog 12 #[] w fun e w' => e = .returned (.bool r) ∧ Below w.heap.size w w' := by
  have GT := Aside0.mk hT
  clear hT
  have hu23 := Tryd.underlying23
  have hu32 := Tryd.underlying32
  have HB := Aside0.mk (Below.refl w.heap.size w)
  have H : ((webster_Cycle.f k 120 1 2).bind fun bt267 => ((webster_Allowed.f 300 900 70 0 0 ([] : List (S55)) ([] : List (S120)) 0 0 600).bind fun bt271 => ((webster_Allowed.f 300 900 70 0 0 ([] : List (S55)) ([] : List (S120)) 0 0 870).bind fun bt273 => (if bt267.2.2 = 0 then (if bt267.2.1 = true then (if bt267.1 = 460 then (if bt271.1 = 650 then (if bt271.2 = true then (if bt273.1 = 860 then (if bt273.2 = true then (some false) else ((webster_Count.f 300 900 70 0 0 ([] : List (S55)) ([] : List (S120)) 0 0).bind fun t275 => (some (t275 == 9)))) else (some false)) else (some false)) else (some false)) else (some false)) else (some false)) else (some false))))) = some r := h
  clear h
  replace H := Option.bind_eq_some_iff.mp H
  obtain ⟨⟨t267, t268, t269⟩, A10, H⟩ := H
  replace H : ((webster_Allowed.f 300 900 70 0 0 ([] : List (S55)) ([] : List (S120)) 0 0 600).bind fun bt271 => ((webster_Allowed.f 300 900 70 0 0 ([] : List (S55)) ([] : List (S120)) 0 0 870).bind fun bt273 => (if t269 = 0 then (if t268 = true then (if t267 = 460 then (if bt271.1 = 650 then (if bt271.2 = true then (if bt273.1 = 860 then (if bt273.2 = true then (some false) else ((webster_Count.f 300 900 70 0 0 ([] : List (S55)) ([] : List (S120)) 0 0).bind fun t275 => (some (t275 == 9)))) else (some false)) else (some false)) else (some false)) else (some false)) else (some false)) else (some false)))) = some r := H
  have A1 := Aside0.mk A10
  clear A10
  replace H := Option.bind_eq_some_iff.mp H
  obtain ⟨⟨t271, t272⟩, A20, H⟩ := H
  replace H : ((webster_Allowed.f 300 900 70 0 0 ([] : List (S55)) ([] : List (S120)) 0 0 870).bind fun bt273 => (if t269 = 0 then (if t268 = true then (if t267 = 460 then (if t271 = 650 then (if t272 = true then (if bt273.1 = 860 then (if bt273.2 = true then (some false) else ((webster_Count.f 300 900 70 0 0 ([] : List (S55)) ([] : List (S120)) 0 0).bind fun t275 => (some (t275 == 9)))) else (some false)) else (some false)) else (some false)) else (some false)) else (some false)) else (some false))) = some r := H
  have A2 := Aside0.mk A20
  clear A20
  replace H := Option.bind_eq_some_iff.mp H
  obtain ⟨⟨t273, t274⟩, A30, H⟩ := H
  replace H : (if t269 = 0 then (if t268 = true then (if t267 = 460 then (if t271 = 650 then (if t272 = true then (if t273 = 860 then (if t274 = true then (some false) else ((webster_Count.f 300 900 70 0 0 ([] : List (S55)) ([] : List (S120)) 0 0).bind fun t275 => (some (t275 == 9)))) else (some false)) else (some false)) else (some false)) else (some false)) else (some false)) else (some false)) = some r := H
  have A3 := Aside0.mk A30
  clear A30
  by_cases c4 : t269 = 0
  · rw [if_pos c4] at H
    have c4b0 : (t269 == 0) = true := beq_iff_eq.mpr c4
    have c4b1 : (t269 != 0) = false := bne_eq_false_iff_eq.mpr c4
    clear c4
    by_cases c5 : t268 = true
    · subst c5
      have H1 : (if t267 = 460 then (if t271 = 650 then (if t272 = true then (if t273 = 860 then (if t274 = true then (some false) else ((webster_Count.f 300 900 70 0 0 ([] : List (S55)) ([] : List (S120)) 0 0).bind fun t275 => (some (t275 == 9)))) else (some false)) else (some false)) else (some false)) else (some false)) = some r := by rw [if_pos rfl] at H; exact H
      clear H
      have H := H1
      clear H1
      by_cases c6 : t267 = 460
      · rw [if_pos c6] at H
        have c6b0 : (t267 == 460) = true := beq_iff_eq.mpr c6
        have c6b1 : (t267 != 460) = false := bne_eq_false_iff_eq.mpr c6
        clear c6
        by_cases c7 : t271 = 650
        · rw [if_pos c7] at H
          have c7b0 : (t271 == 650) = true := beq_iff_eq.mpr c7
          have c7b1 : (t271 != 650) = false := bne_eq_false_iff_eq.mpr c7
          clear c7
          by_cases c8 : t272 = true
          · subst c8
            have H1 : (if t273 = 860 then (if t274 = true then (some false) else ((webster_Count.f 300 900 70 0 0 ([] : List (S55)) ([] : List (S120)) 0 0).bind fun t275 => (some (t275 == 9)))) else (some false)) = some r := by rw [if_pos rfl] at H; exact H
            clear H
            have H := H1
            clear H1
            by_cases c9 : t273 = 860
            · rw [if_pos c9] at H
              have c9b0 : (t273 == 860) = true := beq_iff_eq.mpr c9
              have c9b1 : (t273 != 860) = false := bne_eq_false_iff_eq.mpr c9
              clear c9
              by_cases c10 : t274 = true
              · subst c10
                have H1 : (some false) = some r := by rw [if_pos rfl] at H; exact H
                clear H
                have H := H1
                clear H1
                obtain rfl := Option.some.inj H
                go_enter Tryd.func12, Tryd.ntmps12
                go_wp2_with (first | ((with_reducible refine gate_callee (f := 10) rfl ?_); refine goesL_ (some 11) rfl rfl Tryd.func10 (by kernel_rfl) rfl #[.int .i64 120, .agg #[.int .i64 1, .int .i64 2]] rfl (by (try simp only [List.map_toArray, List.map_cons, List.map_nil]); first | done | rfl | (simp only [List.length_drop, List.length_take]; rfl)) ?_; (with_reducible refine (webster_Cycle.calls k 120 1 2 t267 true t269 _ A1.out ?hT).mono ?_); (case hT => first | exact tb GT.out HB | exact tb0 GT.out); rintro e w11 ⟨rfl, hb⟩; refine ⟨_, rfl, ?_⟩; replace HB := bs HB hb; (try clear hb); (try clear hb2); (try clear hk); (try clear hi)) | ((with_reducible refine gate_dst (N := 4) rfl ?_); refine box_event ?hg (N := 4) ?hd (cs := #[.int .i64 0, .int .i64 0, .int .i64 0, .int .i64 0, .int .i64 0, .slice none 0 0, .slice none 0 0, .int .i64 0, .int .i64 0]) (t := 32) ?hr ?_; (case hd => rfl); (case hg => rfl); (case hr => first | (go_simp; done) | (go_simp; rfl)); intro gb270 hg w12 hbox hb; have BK270 := Aside0.mk (hbox); have GW270 := bz HB hg; have GE270 := bz HB hg; replace HB := bs HB hb; clear hb hbox hg; have hcz13_0 := bc (v := .int .i64 0) BK270 0 rfl; have hcz13_1 := bc (v := .int .i64 0) BK270 1 rfl; have hcz13_2 := bc (v := .int .i64 0) BK270 2 rfl; have hcz13_3 := bc (v := .int .i64 0) BK270 3 rfl; have hcz13_4 := bc (v := .int .i64 0) BK270 4 rfl; have hcz13_5 := bc (v := .slice none 0 0) BK270 5 rfl; have hcz13_6 := bc (v := .slice none 0 0) BK270 6 rfl; have hcz13_7 := bc (v := .int .i64 0) BK270 7 rfl; have hcz13_8 := bc (v := .int .i64 0) BK270 8 rfl; have hfz13_0 := blk_frozen BK270.out 0; have hfz13_1 := blk_frozen BK270.out 1; have hfz13_2 := blk_frozen BK270.out 2; have hfz13_3 := blk_frozen BK270.out 3; have hfz13_4 := blk_frozen BK270.out 4; have hfz13_5 := blk_frozen BK270.out 5; have hfz13_6 := blk_frozen BK270.out 6; have hfz13_7 := blk_frozen BK270.out 7; have hfz13_8 := blk_frozen BK270.out 8) | ((with_reducible refine gate_callee (f := 13) rfl ?_); refine goesL_ (some 18) rfl rfl Tryd.func13 (by kernel_rfl) rfl #[.agg #[.int .i64 300, .int .i64 900, .int .i64 70, .int .i64 0, .int .i64 0, .slice none 0 0, .slice none 0 0, .int .i64 0, .int .i64 0], .int .i64 600] rfl (by (try simp only [List.map_toArray, List.map_cons, List.map_nil]); first | done | rfl | (simp only [List.length_drop, List.length_take]; rfl)) ?_; (refine (webster_Allowed.calls 300 900 70 0 0 _ _ ([] : List (S55)) _ _ ([] : List (S120)) 0 0 600 t271 true _ ?side1 ?side2 ?side3 ?side4 A2.out).mono ?_); (case side1 => exact Kd.C_nil _ _); (case side2 => exact Nat.le_refl _); (case side3 => exact Kd.C_nil _ _); (case side4 => exact Nat.le_refl _); rintro e w14 ⟨rfl, hb⟩; refine ⟨_, rfl, ?_⟩; replace BK270 := Aside0.mk (blk_below (g := gb270) (o := .cells #[.int .i64 300, .int .i64 900, .int .i64 70, .int .i64 0, .int .i64 0, .slice none 0 0, .slice none 0 0, .int .i64 0, .int .i64 0] 32 (0, 0)) (by (with_reducible repeat (first | refine blk_drewN ?_ _ | refine blk_drew ?_ | refine blk_alloc ?_ _)); refine blk_put (cs := #[.int .i64 300, .int .i64 900, .int .i64 70, .int .i64 0, .int .i64 0, .slice none 0 0, .slice none 0 0, .int .i64 0, .int .i64 0]) ?_ 8 _ rfl; (with_reducible repeat (first | refine blk_drewN ?_ _ | refine blk_drew ?_ | refine blk_alloc ?_ _)); refine blk_put (cs := #[.int .i64 300, .int .i64 900, .int .i64 70, .int .i64 0, .int .i64 0, .slice none 0 0, .slice none 0 0, .int .i64 0, .int .i64 0]) ?_ 7 _ rfl; (with_reducible repeat (first | refine blk_drewN ?_ _ | refine blk_drew ?_ | refine blk_alloc ?_ _)); refine blk_put (cs := #[.int .i64 300, .int .i64 900, .int .i64 70, .int .i64 0, .int .i64 0, .slice none 0 0, .slice none 0 0, .int .i64 0, .int .i64 0]) ?_ 6 _ rfl; (with_reducible repeat (first | refine blk_drewN ?_ _ | refine blk_drew ?_ | refine blk_alloc ?_ _)); refine blk_put (cs := #[.int .i64 300, .int .i64 900, .int .i64 70, .int .i64 0, .int .i64 0, .slice none 0 0, .slice none 0 0, .int .i64 0, .int .i64 0]) ?_ 5 _ rfl; (with_reducible repeat (first | refine blk_drewN ?_ _ | refine blk_drew ?_ | refine blk_alloc ?_ _)); refine blk_put (cs := #[.int .i64 300, .int .i64 900, .int .i64 70, .int .i64 0, .int .i64 0, .slice none 0 0, .slice none 0 0, .int .i64 0, .int .i64 0]) ?_ 4 _ rfl; (with_reducible repeat (first | refine blk_drewN ?_ _ | refine blk_drew ?_ | refine blk_alloc ?_ _)); refine blk_put (cs := #[.int .i64 300, .int .i64 900, .int .i64 70, .int .i64 0, .int .i64 0, .slice none 0 0, .slice none 0 0, .int .i64 0, .int .i64 0]) ?_ 3 _ rfl; (with_reducible repeat (first | refine blk_drewN ?_ _ | refine blk_drew ?_ | refine blk_alloc ?_ _)); refine blk_put (cs := #[.int .i64 300, .int .i64 900, .int .i64 0, .int .i64 0, .int .i64 0, .slice none 0 0, .slice none 0 0, .int .i64 0, .int .i64 0]) ?_ 2 _ rfl; (with_reducible repeat (first | refine blk_drewN ?_ _ | refine blk_drew ?_ | refine blk_alloc ?_ _)); refine blk_put (cs := #[.int .i64 300, .int .i64 0, .int .i64 0, .int .i64 0, .int .i64 0, .slice none 0 0, .slice none 0 0, .int .i64 0, .int .i64 0]) ?_ 1 _ rfl; (with_reducible repeat (first | refine blk_drewN ?_ _ | refine blk_drew ?_ | refine blk_alloc ?_ _)); refine blk_put (cs := #[.int .i64 0, .int .i64 0, .int .i64 0, .int .i64 0, .int .i64 0, .slice none 0 0, .slice none 0 0, .int .i64 0, .int .i64 0]) ?_ 0 _ rfl; (with_reducible repeat (first | refine blk_drewN ?_ _ | refine blk_drew ?_ | refine blk_alloc ?_ _)); exact BK270.out) hb); replace HB := bs HB hb; (try clear hb); (try clear hb2); (try clear hk); (try clear hi); have hcz15_0 := bc (v := .int .i64 300) BK270 0 rfl; have hcz15_1 := bc (v := .int .i64 900) BK270 1 rfl; have hcz15_2 := bc (v := .int .i64 70) BK270 2 rfl; have hcz15_3 := bc (v := .int .i64 0) BK270 3 rfl; have hcz15_4 := bc (v := .int .i64 0) BK270 4 rfl; have hcz15_5 := bc (v := .slice none 0 0) BK270 5 rfl; have hcz15_6 := bc (v := .slice none 0 0) BK270 6 rfl; have hcz15_7 := bc (v := .int .i64 0) BK270 7 rfl; have hcz15_8 := bc (v := .int .i64 0) BK270 8 rfl; have hfz15_0 := blk_frozen BK270.out 0; have hfz15_1 := blk_frozen BK270.out 1; have hfz15_2 := blk_frozen BK270.out 2; have hfz15_3 := blk_frozen BK270.out 3; have hfz15_4 := blk_frozen BK270.out 4; have hfz15_5 := blk_frozen BK270.out 5; have hfz15_6 := blk_frozen BK270.out 6; have hfz15_7 := blk_frozen BK270.out 7; have hfz15_8 := blk_frozen BK270.out 8) | ((with_reducible refine gate_callee (f := 13) rfl ?_); refine goesL_ (some 23) rfl rfl Tryd.func13 (by kernel_rfl) rfl #[.agg #[.int .i64 300, .int .i64 900, .int .i64 70, .int .i64 0, .int .i64 0, .slice none 0 0, .slice none 0 0, .int .i64 0, .int .i64 0], .int .i64 870] rfl (by (try simp only [List.map_toArray, List.map_cons, List.map_nil]); first | done | rfl | (simp only [List.length_drop, List.length_take]; rfl)) ?_; (refine (webster_Allowed.calls 300 900 70 0 0 _ _ ([] : List (S55)) _ _ ([] : List (S120)) 0 0 870 t273 true _ ?side1 ?side2 ?side3 ?side4 A3.out).mono ?_); (case side1 => exact Kd.C_nil _ _); (case side2 => exact Nat.le_refl _); (case side3 => exact Kd.C_nil _ _); (case side4 => exact Nat.le_refl _); rintro e w16 ⟨rfl, hb⟩; refine ⟨_, rfl, ?_⟩; replace BK270 := bb BK270 hb; replace HB := bs HB hb; (try clear hb); (try clear hb2); (try clear hk); (try clear hi)))
                go_ret
                exact ⟨by first | rfl | (simp [errW_none, errW_some] <;> rfl) | (simp [*, errW_none, errW_some] <;> rfl), by repeat (first | (with_reducible first | exact HB.out | apply below_alloc | apply pw_below_drewN | apply below_drew1 | refine below_set ?_ GE270.out) | exact HB.out)⟩
              · replace c10 := Bool.eq_false_iff.mpr c10
                subst c10
                have H1 : ((webster_Count.f 300 900 70 0 0 ([] : List (S55)) ([] : List (S120)) 0 0).bind fun t275 => (some (t275 == 9))) = some r := by rw [if_neg (show ¬ (false = true) by decide)] at H; exact H
                clear H
                have H := H1
                clear H1
                replace H := Option.bind_eq_some_iff.mp H
                obtain ⟨t275, A170, H⟩ := H
                replace H : (some (t275 == 9)) = some r := H
                have A17 := Aside0.mk A170
                clear A170
                obtain rfl := Option.some.inj H
                go_enter Tryd.func12, Tryd.ntmps12
                go_wp2_with (first | ((with_reducible refine gate_callee (f := 10) rfl ?_); refine goesL_ (some 11) rfl rfl Tryd.func10 (by kernel_rfl) rfl #[.int .i64 120, .agg #[.int .i64 1, .int .i64 2]] rfl (by (try simp only [List.map_toArray, List.map_cons, List.map_nil]); first | done | rfl | (simp only [List.length_drop, List.length_take]; rfl)) ?_; (with_reducible refine (webster_Cycle.calls k 120 1 2 t267 true t269 _ A1.out ?hT).mono ?_); (case hT => first | exact tb GT.out HB | exact tb0 GT.out); rintro e w18 ⟨rfl, hb⟩; refine ⟨_, rfl, ?_⟩; replace HB := bs HB hb; (try clear hb); (try clear hb2); (try clear hk); (try clear hi)) | ((with_reducible refine gate_dst (N := 4) rfl ?_); refine box_event ?hg (N := 4) ?hd (cs := #[.int .i64 0, .int .i64 0, .int .i64 0, .int .i64 0, .int .i64 0, .slice none 0 0, .slice none 0 0, .int .i64 0, .int .i64 0]) (t := 32) ?hr ?_; (case hd => rfl); (case hg => rfl); (case hr => first | (go_simp; done) | (go_simp; rfl)); intro gb270 hg w19 hbox hb; have BK270 := Aside0.mk (hbox); have GW270 := bz HB hg; have GE270 := bz HB hg; replace HB := bs HB hb; clear hb hbox hg; have hcz20_0 := bc (v := .int .i64 0) BK270 0 rfl; have hcz20_1 := bc (v := .int .i64 0) BK270 1 rfl; have hcz20_2 := bc (v := .int .i64 0) BK270 2 rfl; have hcz20_3 := bc (v := .int .i64 0) BK270 3 rfl; have hcz20_4 := bc (v := .int .i64 0) BK270 4 rfl; have hcz20_5 := bc (v := .slice none 0 0) BK270 5 rfl; have hcz20_6 := bc (v := .slice none 0 0) BK270 6 rfl; have hcz20_7 := bc (v := .int .i64 0) BK270 7 rfl; have hcz20_8 := bc (v := .int .i64 0) BK270 8 rfl; have hfz20_0 := blk_frozen BK270.out 0; have hfz20_1 := blk_frozen BK270.out 1; have hfz20_2 := blk_frozen BK270.out 2; have hfz20_3 := blk_frozen BK270.out 3; have hfz20_4 := blk_frozen BK270.out 4; have hfz20_5 := blk_frozen BK270.out 5; have hfz20_6 := blk_frozen BK270.out 6; have hfz20_7 := blk_frozen BK270.out 7; have hfz20_8 := blk_frozen BK270.out 8) | ((with_reducible refine gate_callee (f := 13) rfl ?_); refine goesL_ (some 18) rfl rfl Tryd.func13 (by kernel_rfl) rfl #[.agg #[.int .i64 300, .int .i64 900, .int .i64 70, .int .i64 0, .int .i64 0, .slice none 0 0, .slice none 0 0, .int .i64 0, .int .i64 0], .int .i64 600] rfl (by (try simp only [List.map_toArray, List.map_cons, List.map_nil]); first | done | rfl | (simp only [List.length_drop, List.length_take]; rfl)) ?_; (refine (webster_Allowed.calls 300 900 70 0 0 _ _ ([] : List (S55)) _ _ ([] : List (S120)) 0 0 600 t271 true _ ?side1 ?side2 ?side3 ?side4 A2.out).mono ?_); (case side1 => exact Kd.C_nil _ _); (case side2 => exact Nat.le_refl _); (case side3 => exact Kd.C_nil _ _); (case side4 => exact Nat.le_refl _); rintro e w21 ⟨rfl, hb⟩; refine ⟨_, rfl, ?_⟩; replace BK270 := Aside0.mk (blk_below (g := gb270) (o := .cells #[.int .i64 300, .int .i64 900, .int .i64 70, .int .i64 0, .int .i64 0, .slice none 0 0, .slice none 0 0, .int .i64 0, .int .i64 0] 32 (0, 0)) (by (with_reducible repeat (first | refine blk_drewN ?_ _ | refine blk_drew ?_ | refine blk_alloc ?_ _)); refine blk_put (cs := #[.int .i64 300, .int .i64 900, .int .i64 70, .int .i64 0, .int .i64 0, .slice none 0 0, .slice none 0 0, .int .i64 0, .int .i64 0]) ?_ 8 _ rfl; (with_reducible repeat (first | refine blk_drewN ?_ _ | refine blk_drew ?_ | refine blk_alloc ?_ _)); refine blk_put (cs := #[.int .i64 300, .int .i64 900, .int .i64 70, .int .i64 0, .int .i64 0, .slice none 0 0, .slice none 0 0, .int .i64 0, .int .i64 0]) ?_ 7 _ rfl; (with_reducible repeat (first | refine blk_drewN ?_ _ | refine blk_drew ?_ | refine blk_alloc ?_ _)); refine blk_put (cs := #[.int .i64 300, .int .i64 900, .int .i64 70, .int .i64 0, .int .i64 0, .slice none 0 0, .slice none 0 0, .int .i64 0, .int .i64 0]) ?_ 6 _ rfl; (with_reducible repeat (first | refine blk_drewN ?_ _ | refine blk_drew ?_ | refine blk_alloc ?_ _)); refine blk_put (cs := #[.int .i64 300, .int .i64 900, .int .i64 70, .int .i64 0, .int .i64 0, .slice none 0 0, .slice none 0 0, .int .i64 0, .int .i64 0]) ?_ 5 _ rfl; (with_reducible repeat (first | refine blk_drewN ?_ _ | refine blk_drew ?_ | refine blk_alloc ?_ _)); refine blk_put (cs := #[.int .i64 300, .int .i64 900, .int .i64 70, .int .i64 0, .int .i64 0, .slice none 0 0, .slice none 0 0, .int .i64 0, .int .i64 0]) ?_ 4 _ rfl; (with_reducible repeat (first | refine blk_drewN ?_ _ | refine blk_drew ?_ | refine blk_alloc ?_ _)); refine blk_put (cs := #[.int .i64 300, .int .i64 900, .int .i64 70, .int .i64 0, .int .i64 0, .slice none 0 0, .slice none 0 0, .int .i64 0, .int .i64 0]) ?_ 3 _ rfl; (with_reducible repeat (first | refine blk_drewN ?_ _ | refine blk_drew ?_ | refine blk_alloc ?_ _)); refine blk_put (cs := #[.int .i64 300, .int .i64 900, .int .i64 0, .int .i64 0, .int .i64 0, .slice none 0 0, .slice none 0 0, .int .i64 0, .int .i64 0]) ?_ 2 _ rfl; (with_reducible repeat (first | refine blk_drewN ?_ _ | refine blk_drew ?_ | refine blk_alloc ?_ _)); refine blk_put (cs := #[.int .i64 300, .int .i64 0, .int .i64 0, .int .i64 0, .int .i64 0, .slice none 0 0, .slice none 0 0, .int .i64 0, .int .i64 0]) ?_ 1 _ rfl; (with_reducible repeat (first | refine blk_drewN ?_ _ | refine blk_drew ?_ | refine blk_alloc ?_ _)); refine blk_put (cs := #[.int .i64 0, .int .i64 0, .int .i64 0, .int .i64 0, .int .i64 0, .slice none 0 0, .slice none 0 0, .int .i64 0, .int .i64 0]) ?_ 0 _ rfl; (with_reducible repeat (first | refine blk_drewN ?_ _ | refine blk_drew ?_ | refine blk_alloc ?_ _)); exact BK270.out) hb); replace HB := bs HB hb; (try clear hb); (try clear hb2); (try clear hk); (try clear hi); have hcz22_0 := bc (v := .int .i64 300) BK270 0 rfl; have hcz22_1 := bc (v := .int .i64 900) BK270 1 rfl; have hcz22_2 := bc (v := .int .i64 70) BK270 2 rfl; have hcz22_3 := bc (v := .int .i64 0) BK270 3 rfl; have hcz22_4 := bc (v := .int .i64 0) BK270 4 rfl; have hcz22_5 := bc (v := .slice none 0 0) BK270 5 rfl; have hcz22_6 := bc (v := .slice none 0 0) BK270 6 rfl; have hcz22_7 := bc (v := .int .i64 0) BK270 7 rfl; have hcz22_8 := bc (v := .int .i64 0) BK270 8 rfl; have hfz22_0 := blk_frozen BK270.out 0; have hfz22_1 := blk_frozen BK270.out 1; have hfz22_2 := blk_frozen BK270.out 2; have hfz22_3 := blk_frozen BK270.out 3; have hfz22_4 := blk_frozen BK270.out 4; have hfz22_5 := blk_frozen BK270.out 5; have hfz22_6 := blk_frozen BK270.out 6; have hfz22_7 := blk_frozen BK270.out 7; have hfz22_8 := blk_frozen BK270.out 8) | ((with_reducible refine gate_callee (f := 13) rfl ?_); refine goesL_ (some 23) rfl rfl Tryd.func13 (by kernel_rfl) rfl #[.agg #[.int .i64 300, .int .i64 900, .int .i64 70, .int .i64 0, .int .i64 0, .slice none 0 0, .slice none 0 0, .int .i64 0, .int .i64 0], .int .i64 870] rfl (by (try simp only [List.map_toArray, List.map_cons, List.map_nil]); first | done | rfl | (simp only [List.length_drop, List.length_take]; rfl)) ?_; (refine (webster_Allowed.calls 300 900 70 0 0 _ _ ([] : List (S55)) _ _ ([] : List (S120)) 0 0 870 t273 false _ ?side1 ?side2 ?side3 ?side4 A3.out).mono ?_); (case side1 => exact Kd.C_nil _ _); (case side2 => exact Nat.le_refl _); (case side3 => exact Kd.C_nil _ _); (case side4 => exact Nat.le_refl _); rintro e w23 ⟨rfl, hb⟩; refine ⟨_, rfl, ?_⟩; replace BK270 := bb BK270 hb; replace HB := bs HB hb; (try clear hb); (try clear hb2); (try clear hk); (try clear hi); have hcz24_0 := bc (v := .int .i64 300) BK270 0 rfl; have hcz24_1 := bc (v := .int .i64 900) BK270 1 rfl; have hcz24_2 := bc (v := .int .i64 70) BK270 2 rfl; have hcz24_3 := bc (v := .int .i64 0) BK270 3 rfl; have hcz24_4 := bc (v := .int .i64 0) BK270 4 rfl; have hcz24_5 := bc (v := .slice none 0 0) BK270 5 rfl; have hcz24_6 := bc (v := .slice none 0 0) BK270 6 rfl; have hcz24_7 := bc (v := .int .i64 0) BK270 7 rfl; have hcz24_8 := bc (v := .int .i64 0) BK270 8 rfl; have hfz24_0 := blk_frozen BK270.out 0; have hfz24_1 := blk_frozen BK270.out 1; have hfz24_2 := blk_frozen BK270.out 2; have hfz24_3 := blk_frozen BK270.out 3; have hfz24_4 := blk_frozen BK270.out 4; have hfz24_5 := blk_frozen BK270.out 5; have hfz24_6 := blk_frozen BK270.out 6; have hfz24_7 := blk_frozen BK270.out 7; have hfz24_8 := blk_frozen BK270.out 8) | (go_at_call 15; (refine (webster_Count.calls 300 900 70 0 0 _ _ ([] : List (S55)) _ _ ([] : List (S120)) 0 0 t275 _ ?side1 ?side2 ?side3 ?side4 A17.out).mono ?_); (case side1 => exact Kd.C_nil _ _); (case side2 => exact Nat.le_refl _); (case side3 => exact Kd.C_nil _ _); (case side4 => exact Nat.le_refl _); rintro e w25 ⟨rfl, hb⟩; replace BK270 := bb BK270 hb; replace HB := bs HB hb; (try clear hb); (try clear hb2); (try clear hk); (try clear hi)))
                go_ret
                exact ⟨by first | rfl | (simp [errW_none, errW_some] <;> rfl) | (simp [*, errW_none, errW_some] <;> rfl), by repeat (first | (with_reducible first | exact HB.out | apply below_alloc | apply pw_below_drewN | apply below_drew1 | refine below_set ?_ GE270.out) | exact HB.out)⟩
            · rw [if_neg c9] at H
              have c9b0 : (t273 == 860) = false := beq_eq_false_iff_ne.mpr c9
              have c9b1 : (t273 != 860) = true := bne_iff_ne.mpr c9
              obtain rfl := Option.some.inj H
              go_enter Tryd.func12, Tryd.ntmps12
              go_wp2_with (first | ((with_reducible refine gate_callee (f := 10) rfl ?_); refine goesL_ (some 11) rfl rfl Tryd.func10 (by kernel_rfl) rfl #[.int .i64 120, .agg #[.int .i64 1, .int .i64 2]] rfl (by (try simp only [List.map_toArray, List.map_cons, List.map_nil]); first | done | rfl | (simp only [List.length_drop, List.length_take]; rfl)) ?_; (with_reducible refine (webster_Cycle.calls k 120 1 2 t267 true t269 _ A1.out ?hT).mono ?_); (case hT => first | exact tb GT.out HB | exact tb0 GT.out); rintro e w26 ⟨rfl, hb⟩; refine ⟨_, rfl, ?_⟩; replace HB := bs HB hb; (try clear hb); (try clear hb2); (try clear hk); (try clear hi)) | ((with_reducible refine gate_dst (N := 4) rfl ?_); refine box_event ?hg (N := 4) ?hd (cs := #[.int .i64 0, .int .i64 0, .int .i64 0, .int .i64 0, .int .i64 0, .slice none 0 0, .slice none 0 0, .int .i64 0, .int .i64 0]) (t := 32) ?hr ?_; (case hd => rfl); (case hg => rfl); (case hr => first | (go_simp; done) | (go_simp; rfl)); intro gb270 hg w27 hbox hb; have BK270 := Aside0.mk (hbox); have GW270 := bz HB hg; have GE270 := bz HB hg; replace HB := bs HB hb; clear hb hbox hg; have hcz28_0 := bc (v := .int .i64 0) BK270 0 rfl; have hcz28_1 := bc (v := .int .i64 0) BK270 1 rfl; have hcz28_2 := bc (v := .int .i64 0) BK270 2 rfl; have hcz28_3 := bc (v := .int .i64 0) BK270 3 rfl; have hcz28_4 := bc (v := .int .i64 0) BK270 4 rfl; have hcz28_5 := bc (v := .slice none 0 0) BK270 5 rfl; have hcz28_6 := bc (v := .slice none 0 0) BK270 6 rfl; have hcz28_7 := bc (v := .int .i64 0) BK270 7 rfl; have hcz28_8 := bc (v := .int .i64 0) BK270 8 rfl; have hfz28_0 := blk_frozen BK270.out 0; have hfz28_1 := blk_frozen BK270.out 1; have hfz28_2 := blk_frozen BK270.out 2; have hfz28_3 := blk_frozen BK270.out 3; have hfz28_4 := blk_frozen BK270.out 4; have hfz28_5 := blk_frozen BK270.out 5; have hfz28_6 := blk_frozen BK270.out 6; have hfz28_7 := blk_frozen BK270.out 7; have hfz28_8 := blk_frozen BK270.out 8) | ((with_reducible refine gate_callee (f := 13) rfl ?_); refine goesL_ (some 18) rfl rfl Tryd.func13 (by kernel_rfl) rfl #[.agg #[.int .i64 300, .int .i64 900, .int .i64 70, .int .i64 0, .int .i64 0, .slice none 0 0, .slice none 0 0, .int .i64 0, .int .i64 0], .int .i64 600] rfl (by (try simp only [List.map_toArray, List.map_cons, List.map_nil]); first | done | rfl | (simp only [List.length_drop, List.length_take]; rfl)) ?_; (refine (webster_Allowed.calls 300 900 70 0 0 _ _ ([] : List (S55)) _ _ ([] : List (S120)) 0 0 600 t271 true _ ?side1 ?side2 ?side3 ?side4 A2.out).mono ?_); (case side1 => exact Kd.C_nil _ _); (case side2 => exact Nat.le_refl _); (case side3 => exact Kd.C_nil _ _); (case side4 => exact Nat.le_refl _); rintro e w29 ⟨rfl, hb⟩; refine ⟨_, rfl, ?_⟩; replace BK270 := Aside0.mk (blk_below (g := gb270) (o := .cells #[.int .i64 300, .int .i64 900, .int .i64 70, .int .i64 0, .int .i64 0, .slice none 0 0, .slice none 0 0, .int .i64 0, .int .i64 0] 32 (0, 0)) (by (with_reducible repeat (first | refine blk_drewN ?_ _ | refine blk_drew ?_ | refine blk_alloc ?_ _)); refine blk_put (cs := #[.int .i64 300, .int .i64 900, .int .i64 70, .int .i64 0, .int .i64 0, .slice none 0 0, .slice none 0 0, .int .i64 0, .int .i64 0]) ?_ 8 _ rfl; (with_reducible repeat (first | refine blk_drewN ?_ _ | refine blk_drew ?_ | refine blk_alloc ?_ _)); refine blk_put (cs := #[.int .i64 300, .int .i64 900, .int .i64 70, .int .i64 0, .int .i64 0, .slice none 0 0, .slice none 0 0, .int .i64 0, .int .i64 0]) ?_ 7 _ rfl; (with_reducible repeat (first | refine blk_drewN ?_ _ | refine blk_drew ?_ | refine blk_alloc ?_ _)); refine blk_put (cs := #[.int .i64 300, .int .i64 900, .int .i64 70, .int .i64 0, .int .i64 0, .slice none 0 0, .slice none 0 0, .int .i64 0, .int .i64 0]) ?_ 6 _ rfl; (with_reducible repeat (first | refine blk_drewN ?_ _ | refine blk_drew ?_ | refine blk_alloc ?_ _)); refine blk_put (cs := #[.int .i64 300, .int .i64 900, .int .i64 70, .int .i64 0, .int .i64 0, .slice none 0 0, .slice none 0 0, .int .i64 0, .int .i64 0]) ?_ 5 _ rfl; (with_reducible repeat (first | refine blk_drewN ?_ _ | refine blk_drew ?_ | refine blk_alloc ?_ _)); refine blk_put (cs := #[.int .i64 300, .int .i64 900, .int .i64 70, .int .i64 0, .int .i64 0, .slice none 0 0, .slice none 0 0, .int .i64 0, .int .i64 0]) ?_ 4 _ rfl; (with_reducible repeat (first | refine blk_drewN ?_ _ | refine blk_drew ?_ | refine blk_alloc ?_ _)); refine blk_put (cs := #[.int .i64 300, .int .i64 900, .int .i64 70, .int .i64 0, .int .i64 0, .slice none 0 0, .slice none 0 0, .int .i64 0, .int .i64 0]) ?_ 3 _ rfl; (with_reducible repeat (first | refine blk_drewN ?_ _ | refine blk_drew ?_ | refine blk_alloc ?_ _)); refine blk_put (cs := #[.int .i64 300, .int .i64 900, .int .i64 0, .int .i64 0, .int .i64 0, .slice none 0 0, .slice none 0 0, .int .i64 0, .int .i64 0]) ?_ 2 _ rfl; (with_reducible repeat (first | refine blk_drewN ?_ _ | refine blk_drew ?_ | refine blk_alloc ?_ _)); refine blk_put (cs := #[.int .i64 300, .int .i64 0, .int .i64 0, .int .i64 0, .int .i64 0, .slice none 0 0, .slice none 0 0, .int .i64 0, .int .i64 0]) ?_ 1 _ rfl; (with_reducible repeat (first | refine blk_drewN ?_ _ | refine blk_drew ?_ | refine blk_alloc ?_ _)); refine blk_put (cs := #[.int .i64 0, .int .i64 0, .int .i64 0, .int .i64 0, .int .i64 0, .slice none 0 0, .slice none 0 0, .int .i64 0, .int .i64 0]) ?_ 0 _ rfl; (with_reducible repeat (first | refine blk_drewN ?_ _ | refine blk_drew ?_ | refine blk_alloc ?_ _)); exact BK270.out) hb); replace HB := bs HB hb; (try clear hb); (try clear hb2); (try clear hk); (try clear hi); have hcz30_0 := bc (v := .int .i64 300) BK270 0 rfl; have hcz30_1 := bc (v := .int .i64 900) BK270 1 rfl; have hcz30_2 := bc (v := .int .i64 70) BK270 2 rfl; have hcz30_3 := bc (v := .int .i64 0) BK270 3 rfl; have hcz30_4 := bc (v := .int .i64 0) BK270 4 rfl; have hcz30_5 := bc (v := .slice none 0 0) BK270 5 rfl; have hcz30_6 := bc (v := .slice none 0 0) BK270 6 rfl; have hcz30_7 := bc (v := .int .i64 0) BK270 7 rfl; have hcz30_8 := bc (v := .int .i64 0) BK270 8 rfl; have hfz30_0 := blk_frozen BK270.out 0; have hfz30_1 := blk_frozen BK270.out 1; have hfz30_2 := blk_frozen BK270.out 2; have hfz30_3 := blk_frozen BK270.out 3; have hfz30_4 := blk_frozen BK270.out 4; have hfz30_5 := blk_frozen BK270.out 5; have hfz30_6 := blk_frozen BK270.out 6; have hfz30_7 := blk_frozen BK270.out 7; have hfz30_8 := blk_frozen BK270.out 8) | ((with_reducible refine gate_callee (f := 13) rfl ?_); refine goesL_ (some 23) rfl rfl Tryd.func13 (by kernel_rfl) rfl #[.agg #[.int .i64 300, .int .i64 900, .int .i64 70, .int .i64 0, .int .i64 0, .slice none 0 0, .slice none 0 0, .int .i64 0, .int .i64 0], .int .i64 870] rfl (by (try simp only [List.map_toArray, List.map_cons, List.map_nil]); first | done | rfl | (simp only [List.length_drop, List.length_take]; rfl)) ?_; (refine (webster_Allowed.calls 300 900 70 0 0 _ _ ([] : List (S55)) _ _ ([] : List (S120)) 0 0 870 t273 t274 _ ?side1 ?side2 ?side3 ?side4 A3.out).mono ?_); (case side1 => exact Kd.C_nil _ _); (case side2 => exact Nat.le_refl _); (case side3 => exact Kd.C_nil _ _); (case side4 => exact Nat.le_refl _); rintro e w31 ⟨rfl, hb⟩; refine ⟨_, rfl, ?_⟩; replace BK270 := bb BK270 hb; replace HB := bs HB hb; (try clear hb); (try clear hb2); (try clear hk); (try clear hi)))
              go_ret
              exact ⟨by first | rfl | (simp [errW_none, errW_some] <;> rfl) | (simp [*, errW_none, errW_some] <;> rfl), by repeat (first | (with_reducible first | exact HB.out | apply below_alloc | apply pw_below_drewN | apply below_drew1 | refine below_set ?_ GE270.out) | exact HB.out)⟩
          · replace c8 := Bool.eq_false_iff.mpr c8
            subst c8
            have H1 : (some false) = some r := by rw [if_neg (show ¬ (false = true) by decide)] at H; exact H
            clear H
            have H := H1
            clear H1
            obtain rfl := Option.some.inj H
            go_enter Tryd.func12, Tryd.ntmps12
            go_wp2_with (first | ((with_reducible refine gate_callee (f := 10) rfl ?_); refine goesL_ (some 11) rfl rfl Tryd.func10 (by kernel_rfl) rfl #[.int .i64 120, .agg #[.int .i64 1, .int .i64 2]] rfl (by (try simp only [List.map_toArray, List.map_cons, List.map_nil]); first | done | rfl | (simp only [List.length_drop, List.length_take]; rfl)) ?_; (with_reducible refine (webster_Cycle.calls k 120 1 2 t267 true t269 _ A1.out ?hT).mono ?_); (case hT => first | exact tb GT.out HB | exact tb0 GT.out); rintro e w32 ⟨rfl, hb⟩; refine ⟨_, rfl, ?_⟩; replace HB := bs HB hb; (try clear hb); (try clear hb2); (try clear hk); (try clear hi)) | ((with_reducible refine gate_dst (N := 4) rfl ?_); refine box_event ?hg (N := 4) ?hd (cs := #[.int .i64 0, .int .i64 0, .int .i64 0, .int .i64 0, .int .i64 0, .slice none 0 0, .slice none 0 0, .int .i64 0, .int .i64 0]) (t := 32) ?hr ?_; (case hd => rfl); (case hg => rfl); (case hr => first | (go_simp; done) | (go_simp; rfl)); intro gb270 hg w33 hbox hb; have BK270 := Aside0.mk (hbox); have GW270 := bz HB hg; have GE270 := bz HB hg; replace HB := bs HB hb; clear hb hbox hg; have hcz34_0 := bc (v := .int .i64 0) BK270 0 rfl; have hcz34_1 := bc (v := .int .i64 0) BK270 1 rfl; have hcz34_2 := bc (v := .int .i64 0) BK270 2 rfl; have hcz34_3 := bc (v := .int .i64 0) BK270 3 rfl; have hcz34_4 := bc (v := .int .i64 0) BK270 4 rfl; have hcz34_5 := bc (v := .slice none 0 0) BK270 5 rfl; have hcz34_6 := bc (v := .slice none 0 0) BK270 6 rfl; have hcz34_7 := bc (v := .int .i64 0) BK270 7 rfl; have hcz34_8 := bc (v := .int .i64 0) BK270 8 rfl; have hfz34_0 := blk_frozen BK270.out 0; have hfz34_1 := blk_frozen BK270.out 1; have hfz34_2 := blk_frozen BK270.out 2; have hfz34_3 := blk_frozen BK270.out 3; have hfz34_4 := blk_frozen BK270.out 4; have hfz34_5 := blk_frozen BK270.out 5; have hfz34_6 := blk_frozen BK270.out 6; have hfz34_7 := blk_frozen BK270.out 7; have hfz34_8 := blk_frozen BK270.out 8) | ((with_reducible refine gate_callee (f := 13) rfl ?_); refine goesL_ (some 18) rfl rfl Tryd.func13 (by kernel_rfl) rfl #[.agg #[.int .i64 300, .int .i64 900, .int .i64 70, .int .i64 0, .int .i64 0, .slice none 0 0, .slice none 0 0, .int .i64 0, .int .i64 0], .int .i64 600] rfl (by (try simp only [List.map_toArray, List.map_cons, List.map_nil]); first | done | rfl | (simp only [List.length_drop, List.length_take]; rfl)) ?_; (refine (webster_Allowed.calls 300 900 70 0 0 _ _ ([] : List (S55)) _ _ ([] : List (S120)) 0 0 600 t271 false _ ?side1 ?side2 ?side3 ?side4 A2.out).mono ?_); (case side1 => exact Kd.C_nil _ _); (case side2 => exact Nat.le_refl _); (case side3 => exact Kd.C_nil _ _); (case side4 => exact Nat.le_refl _); rintro e w35 ⟨rfl, hb⟩; refine ⟨_, rfl, ?_⟩; replace BK270 := Aside0.mk (blk_below (g := gb270) (o := .cells #[.int .i64 300, .int .i64 900, .int .i64 70, .int .i64 0, .int .i64 0, .slice none 0 0, .slice none 0 0, .int .i64 0, .int .i64 0] 32 (0, 0)) (by (with_reducible repeat (first | refine blk_drewN ?_ _ | refine blk_drew ?_ | refine blk_alloc ?_ _)); refine blk_put (cs := #[.int .i64 300, .int .i64 900, .int .i64 70, .int .i64 0, .int .i64 0, .slice none 0 0, .slice none 0 0, .int .i64 0, .int .i64 0]) ?_ 8 _ rfl; (with_reducible repeat (first | refine blk_drewN ?_ _ | refine blk_drew ?_ | refine blk_alloc ?_ _)); refine blk_put (cs := #[.int .i64 300, .int .i64 900, .int .i64 70, .int .i64 0, .int .i64 0, .slice none 0 0, .slice none 0 0, .int .i64 0, .int .i64 0]) ?_ 7 _ rfl; (with_reducible repeat (first | refine blk_drewN ?_ _ | refine blk_drew ?_ | refine blk_alloc ?_ _)); refine blk_put (cs := #[.int .i64 300, .int .i64 900, .int .i64 70, .int .i64 0, .int .i64 0, .slice none 0 0, .slice none 0 0, .int .i64 0, .int .i64 0]) ?_ 6 _ rfl; (with_reducible repeat (first | refine blk_drewN ?_ _ | refine blk_drew ?_ | refine blk_alloc ?_ _)); refine blk_put (cs := #[.int .i64 300, .int .i64 900, .int .i64 70, .int .i64 0, .int .i64 0, .slice none 0 0, .slice none 0 0, .int .i64 0, .int .i64 0]) ?_ 5 _ rfl; (with_reducible repeat (first | refine blk_drewN ?_ _ | refine blk_drew ?_ | refine blk_alloc ?_ _)); refine blk_put (cs := #[.int .i64 300, .int .i64 900, .int .i64 70, .int .i64 0, .int .i64 0, .slice none 0 0, .slice none 0 0, .int .i64 0, .int .i64 0]) ?_ 4 _ rfl; (with_reducible repeat (first | refine blk_drewN ?_ _ | refine blk_drew ?_ | refine blk_alloc ?_ _)); refine blk_put (cs := #[.int .i64 300, .int .i64 900, .int .i64 70, .int .i64 0, .int .i64 0, .slice none 0 0, .slice none 0 0, .int .i64 0, .int .i64 0]) ?_ 3 _ rfl; (with_reducible repeat (first | refine blk_drewN ?_ _ | refine blk_drew ?_ | refine blk_alloc ?_ _)); refine blk_put (cs := #[.int .i64 300, .int .i64 900, .int .i64 0, .int .i64 0, .int .i64 0, .slice none 0 0, .slice none 0 0, .int .i64 0, .int .i64 0]) ?_ 2 _ rfl; (with_reducible repeat (first | refine blk_drewN ?_ _ | refine blk_drew ?_ | refine blk_alloc ?_ _)); refine blk_put (cs := #[.int .i64 300, .int .i64 0, .int .i64 0, .int .i64 0, .int .i64 0, .slice none 0 0, .slice none 0 0, .int .i64 0, .int .i64 0]) ?_ 1 _ rfl; (with_reducible repeat (first | refine blk_drewN ?_ _ | refine blk_drew ?_ | refine blk_alloc ?_ _)); refine blk_put (cs := #[.int .i64 0, .int .i64 0, .int .i64 0, .int .i64 0, .int .i64 0, .slice none 0 0, .slice none 0 0, .int .i64 0, .int .i64 0]) ?_ 0 _ rfl; (with_reducible repeat (first | refine blk_drewN ?_ _ | refine blk_drew ?_ | refine blk_alloc ?_ _)); exact BK270.out) hb); replace HB := bs HB hb; (try clear hb); (try clear hb2); (try clear hk); (try clear hi); have hcz36_0 := bc (v := .int .i64 300) BK270 0 rfl; have hcz36_1 := bc (v := .int .i64 900) BK270 1 rfl; have hcz36_2 := bc (v := .int .i64 70) BK270 2 rfl; have hcz36_3 := bc (v := .int .i64 0) BK270 3 rfl; have hcz36_4 := bc (v := .int .i64 0) BK270 4 rfl; have hcz36_5 := bc (v := .slice none 0 0) BK270 5 rfl; have hcz36_6 := bc (v := .slice none 0 0) BK270 6 rfl; have hcz36_7 := bc (v := .int .i64 0) BK270 7 rfl; have hcz36_8 := bc (v := .int .i64 0) BK270 8 rfl; have hfz36_0 := blk_frozen BK270.out 0; have hfz36_1 := blk_frozen BK270.out 1; have hfz36_2 := blk_frozen BK270.out 2; have hfz36_3 := blk_frozen BK270.out 3; have hfz36_4 := blk_frozen BK270.out 4; have hfz36_5 := blk_frozen BK270.out 5; have hfz36_6 := blk_frozen BK270.out 6; have hfz36_7 := blk_frozen BK270.out 7; have hfz36_8 := blk_frozen BK270.out 8) | ((with_reducible refine gate_callee (f := 13) rfl ?_); refine goesL_ (some 23) rfl rfl Tryd.func13 (by kernel_rfl) rfl #[.agg #[.int .i64 300, .int .i64 900, .int .i64 70, .int .i64 0, .int .i64 0, .slice none 0 0, .slice none 0 0, .int .i64 0, .int .i64 0], .int .i64 870] rfl (by (try simp only [List.map_toArray, List.map_cons, List.map_nil]); first | done | rfl | (simp only [List.length_drop, List.length_take]; rfl)) ?_; (refine (webster_Allowed.calls 300 900 70 0 0 _ _ ([] : List (S55)) _ _ ([] : List (S120)) 0 0 870 t273 t274 _ ?side1 ?side2 ?side3 ?side4 A3.out).mono ?_); (case side1 => exact Kd.C_nil _ _); (case side2 => exact Nat.le_refl _); (case side3 => exact Kd.C_nil _ _); (case side4 => exact Nat.le_refl _); rintro e w37 ⟨rfl, hb⟩; refine ⟨_, rfl, ?_⟩; replace BK270 := bb BK270 hb; replace HB := bs HB hb; (try clear hb); (try clear hb2); (try clear hk); (try clear hi)))
            go_ret
            exact ⟨by first | rfl | (simp [errW_none, errW_some] <;> rfl) | (simp [*, errW_none, errW_some] <;> rfl), by repeat (first | (with_reducible first | exact HB.out | apply below_alloc | apply pw_below_drewN | apply below_drew1 | refine below_set ?_ GE270.out) | exact HB.out)⟩
        · rw [if_neg c7] at H
          have c7b0 : (t271 == 650) = false := beq_eq_false_iff_ne.mpr c7
          have c7b1 : (t271 != 650) = true := bne_iff_ne.mpr c7
          obtain rfl := Option.some.inj H
          go_enter Tryd.func12, Tryd.ntmps12
          go_wp2_with (first | ((with_reducible refine gate_callee (f := 10) rfl ?_); refine goesL_ (some 11) rfl rfl Tryd.func10 (by kernel_rfl) rfl #[.int .i64 120, .agg #[.int .i64 1, .int .i64 2]] rfl (by (try simp only [List.map_toArray, List.map_cons, List.map_nil]); first | done | rfl | (simp only [List.length_drop, List.length_take]; rfl)) ?_; (with_reducible refine (webster_Cycle.calls k 120 1 2 t267 true t269 _ A1.out ?hT).mono ?_); (case hT => first | exact tb GT.out HB | exact tb0 GT.out); rintro e w38 ⟨rfl, hb⟩; refine ⟨_, rfl, ?_⟩; replace HB := bs HB hb; (try clear hb); (try clear hb2); (try clear hk); (try clear hi)) | ((with_reducible refine gate_dst (N := 4) rfl ?_); refine box_event ?hg (N := 4) ?hd (cs := #[.int .i64 0, .int .i64 0, .int .i64 0, .int .i64 0, .int .i64 0, .slice none 0 0, .slice none 0 0, .int .i64 0, .int .i64 0]) (t := 32) ?hr ?_; (case hd => rfl); (case hg => rfl); (case hr => first | (go_simp; done) | (go_simp; rfl)); intro gb270 hg w39 hbox hb; have BK270 := Aside0.mk (hbox); have GW270 := bz HB hg; have GE270 := bz HB hg; replace HB := bs HB hb; clear hb hbox hg; have hcz40_0 := bc (v := .int .i64 0) BK270 0 rfl; have hcz40_1 := bc (v := .int .i64 0) BK270 1 rfl; have hcz40_2 := bc (v := .int .i64 0) BK270 2 rfl; have hcz40_3 := bc (v := .int .i64 0) BK270 3 rfl; have hcz40_4 := bc (v := .int .i64 0) BK270 4 rfl; have hcz40_5 := bc (v := .slice none 0 0) BK270 5 rfl; have hcz40_6 := bc (v := .slice none 0 0) BK270 6 rfl; have hcz40_7 := bc (v := .int .i64 0) BK270 7 rfl; have hcz40_8 := bc (v := .int .i64 0) BK270 8 rfl; have hfz40_0 := blk_frozen BK270.out 0; have hfz40_1 := blk_frozen BK270.out 1; have hfz40_2 := blk_frozen BK270.out 2; have hfz40_3 := blk_frozen BK270.out 3; have hfz40_4 := blk_frozen BK270.out 4; have hfz40_5 := blk_frozen BK270.out 5; have hfz40_6 := blk_frozen BK270.out 6; have hfz40_7 := blk_frozen BK270.out 7; have hfz40_8 := blk_frozen BK270.out 8) | ((with_reducible refine gate_callee (f := 13) rfl ?_); refine goesL_ (some 18) rfl rfl Tryd.func13 (by kernel_rfl) rfl #[.agg #[.int .i64 300, .int .i64 900, .int .i64 70, .int .i64 0, .int .i64 0, .slice none 0 0, .slice none 0 0, .int .i64 0, .int .i64 0], .int .i64 600] rfl (by (try simp only [List.map_toArray, List.map_cons, List.map_nil]); first | done | rfl | (simp only [List.length_drop, List.length_take]; rfl)) ?_; (refine (webster_Allowed.calls 300 900 70 0 0 _ _ ([] : List (S55)) _ _ ([] : List (S120)) 0 0 600 t271 t272 _ ?side1 ?side2 ?side3 ?side4 A2.out).mono ?_); (case side1 => exact Kd.C_nil _ _); (case side2 => exact Nat.le_refl _); (case side3 => exact Kd.C_nil _ _); (case side4 => exact Nat.le_refl _); rintro e w41 ⟨rfl, hb⟩; refine ⟨_, rfl, ?_⟩; replace BK270 := Aside0.mk (blk_below (g := gb270) (o := .cells #[.int .i64 300, .int .i64 900, .int .i64 70, .int .i64 0, .int .i64 0, .slice none 0 0, .slice none 0 0, .int .i64 0, .int .i64 0] 32 (0, 0)) (by (with_reducible repeat (first | refine blk_drewN ?_ _ | refine blk_drew ?_ | refine blk_alloc ?_ _)); refine blk_put (cs := #[.int .i64 300, .int .i64 900, .int .i64 70, .int .i64 0, .int .i64 0, .slice none 0 0, .slice none 0 0, .int .i64 0, .int .i64 0]) ?_ 8 _ rfl; (with_reducible repeat (first | refine blk_drewN ?_ _ | refine blk_drew ?_ | refine blk_alloc ?_ _)); refine blk_put (cs := #[.int .i64 300, .int .i64 900, .int .i64 70, .int .i64 0, .int .i64 0, .slice none 0 0, .slice none 0 0, .int .i64 0, .int .i64 0]) ?_ 7 _ rfl; (with_reducible repeat (first | refine blk_drewN ?_ _ | refine blk_drew ?_ | refine blk_alloc ?_ _)); refine blk_put (cs := #[.int .i64 300, .int .i64 900, .int .i64 70, .int .i64 0, .int .i64 0, .slice none 0 0, .slice none 0 0, .int .i64 0, .int .i64 0]) ?_ 6 _ rfl; (with_reducible repeat (first | refine blk_drewN ?_ _ | refine blk_drew ?_ | refine blk_alloc ?_ _)); refine blk_put (cs := #[.int .i64 300, .int .i64 900, .int .i64 70, .int .i64 0, .int .i64 0, .slice none 0 0, .slice none 0 0, .int .i64 0, .int .i64 0]) ?_ 5 _ rfl; (with_reducible repeat (first | refine blk_drewN ?_ _ | refine blk_drew ?_ | refine blk_alloc ?_ _)); refine blk_put (cs := #[.int .i64 300, .int .i64 900, .int .i64 70, .int .i64 0, .int .i64 0, .slice none 0 0, .slice none 0 0, .int .i64 0, .int .i64 0]) ?_ 4 _ rfl; (with_reducible repeat (first | refine blk_drewN ?_ _ | refine blk_drew ?_ | refine blk_alloc ?_ _)); refine blk_put (cs := #[.int .i64 300, .int .i64 900, .int .i64 70, .int .i64 0, .int .i64 0, .slice none 0 0, .slice none 0 0, .int .i64 0, .int .i64 0]) ?_ 3 _ rfl; (with_reducible repeat (first | refine blk_drewN ?_ _ | refine blk_drew ?_ | refine blk_alloc ?_ _)); refine blk_put (cs := #[.int .i64 300, .int .i64 900, .int .i64 0, .int .i64 0, .int .i64 0, .slice none 0 0, .slice none 0 0, .int .i64 0, .int .i64 0]) ?_ 2 _ rfl; (with_reducible repeat (first | refine blk_drewN ?_ _ | refine blk_drew ?_ | refine blk_alloc ?_ _)); refine blk_put (cs := #[.int .i64 300, .int .i64 0, .int .i64 0, .int .i64 0, .int .i64 0, .slice none 0 0, .slice none 0 0, .int .i64 0, .int .i64 0]) ?_ 1 _ rfl; (with_reducible repeat (first | refine blk_drewN ?_ _ | refine blk_drew ?_ | refine blk_alloc ?_ _)); refine blk_put (cs := #[.int .i64 0, .int .i64 0, .int .i64 0, .int .i64 0, .int .i64 0, .slice none 0 0, .slice none 0 0, .int .i64 0, .int .i64 0]) ?_ 0 _ rfl; (with_reducible repeat (first | refine blk_drewN ?_ _ | refine blk_drew ?_ | refine blk_alloc ?_ _)); exact BK270.out) hb); replace HB := bs HB hb; (try clear hb); (try clear hb2); (try clear hk); (try clear hi); have hcz42_0 := bc (v := .int .i64 300) BK270 0 rfl; have hcz42_1 := bc (v := .int .i64 900) BK270 1 rfl; have hcz42_2 := bc (v := .int .i64 70) BK270 2 rfl; have hcz42_3 := bc (v := .int .i64 0) BK270 3 rfl; have hcz42_4 := bc (v := .int .i64 0) BK270 4 rfl; have hcz42_5 := bc (v := .slice none 0 0) BK270 5 rfl; have hcz42_6 := bc (v := .slice none 0 0) BK270 6 rfl; have hcz42_7 := bc (v := .int .i64 0) BK270 7 rfl; have hcz42_8 := bc (v := .int .i64 0) BK270 8 rfl; have hfz42_0 := blk_frozen BK270.out 0; have hfz42_1 := blk_frozen BK270.out 1; have hfz42_2 := blk_frozen BK270.out 2; have hfz42_3 := blk_frozen BK270.out 3; have hfz42_4 := blk_frozen BK270.out 4; have hfz42_5 := blk_frozen BK270.out 5; have hfz42_6 := blk_frozen BK270.out 6; have hfz42_7 := blk_frozen BK270.out 7; have hfz42_8 := blk_frozen BK270.out 8) | ((with_reducible refine gate_callee (f := 13) rfl ?_); refine goesL_ (some 23) rfl rfl Tryd.func13 (by kernel_rfl) rfl #[.agg #[.int .i64 300, .int .i64 900, .int .i64 70, .int .i64 0, .int .i64 0, .slice none 0 0, .slice none 0 0, .int .i64 0, .int .i64 0], .int .i64 870] rfl (by (try simp only [List.map_toArray, List.map_cons, List.map_nil]); first | done | rfl | (simp only [List.length_drop, List.length_take]; rfl)) ?_; (refine (webster_Allowed.calls 300 900 70 0 0 _ _ ([] : List (S55)) _ _ ([] : List (S120)) 0 0 870 t273 t274 _ ?side1 ?side2 ?side3 ?side4 A3.out).mono ?_); (case side1 => exact Kd.C_nil _ _); (case side2 => exact Nat.le_refl _); (case side3 => exact Kd.C_nil _ _); (case side4 => exact Nat.le_refl _); rintro e w43 ⟨rfl, hb⟩; refine ⟨_, rfl, ?_⟩; replace BK270 := bb BK270 hb; replace HB := bs HB hb; (try clear hb); (try clear hb2); (try clear hk); (try clear hi)))
          go_ret
          exact ⟨by first | rfl | (simp [errW_none, errW_some] <;> rfl) | (simp [*, errW_none, errW_some] <;> rfl), by repeat (first | (with_reducible first | exact HB.out | apply below_alloc | apply pw_below_drewN | apply below_drew1 | refine below_set ?_ GE270.out) | exact HB.out)⟩
      · rw [if_neg c6] at H
        have c6b0 : (t267 == 460) = false := beq_eq_false_iff_ne.mpr c6
        have c6b1 : (t267 != 460) = true := bne_iff_ne.mpr c6
        obtain rfl := Option.some.inj H
        go_enter Tryd.func12, Tryd.ntmps12
        go_wp2_with (first | ((with_reducible refine gate_callee (f := 10) rfl ?_); refine goesL_ (some 11) rfl rfl Tryd.func10 (by kernel_rfl) rfl #[.int .i64 120, .agg #[.int .i64 1, .int .i64 2]] rfl (by (try simp only [List.map_toArray, List.map_cons, List.map_nil]); first | done | rfl | (simp only [List.length_drop, List.length_take]; rfl)) ?_; (with_reducible refine (webster_Cycle.calls k 120 1 2 t267 true t269 _ A1.out ?hT).mono ?_); (case hT => first | exact tb GT.out HB | exact tb0 GT.out); rintro e w44 ⟨rfl, hb⟩; refine ⟨_, rfl, ?_⟩; replace HB := bs HB hb; (try clear hb); (try clear hb2); (try clear hk); (try clear hi)) | ((with_reducible refine gate_dst (N := 4) rfl ?_); refine box_event ?hg (N := 4) ?hd (cs := #[.int .i64 0, .int .i64 0, .int .i64 0, .int .i64 0, .int .i64 0, .slice none 0 0, .slice none 0 0, .int .i64 0, .int .i64 0]) (t := 32) ?hr ?_; (case hd => rfl); (case hg => rfl); (case hr => first | (go_simp; done) | (go_simp; rfl)); intro gb270 hg w45 hbox hb; have BK270 := Aside0.mk (hbox); have GW270 := bz HB hg; have GE270 := bz HB hg; replace HB := bs HB hb; clear hb hbox hg; have hcz46_0 := bc (v := .int .i64 0) BK270 0 rfl; have hcz46_1 := bc (v := .int .i64 0) BK270 1 rfl; have hcz46_2 := bc (v := .int .i64 0) BK270 2 rfl; have hcz46_3 := bc (v := .int .i64 0) BK270 3 rfl; have hcz46_4 := bc (v := .int .i64 0) BK270 4 rfl; have hcz46_5 := bc (v := .slice none 0 0) BK270 5 rfl; have hcz46_6 := bc (v := .slice none 0 0) BK270 6 rfl; have hcz46_7 := bc (v := .int .i64 0) BK270 7 rfl; have hcz46_8 := bc (v := .int .i64 0) BK270 8 rfl; have hfz46_0 := blk_frozen BK270.out 0; have hfz46_1 := blk_frozen BK270.out 1; have hfz46_2 := blk_frozen BK270.out 2; have hfz46_3 := blk_frozen BK270.out 3; have hfz46_4 := blk_frozen BK270.out 4; have hfz46_5 := blk_frozen BK270.out 5; have hfz46_6 := blk_frozen BK270.out 6; have hfz46_7 := blk_frozen BK270.out 7; have hfz46_8 := blk_frozen BK270.out 8) | ((with_reducible refine gate_callee (f := 13) rfl ?_); refine goesL_ (some 18) rfl rfl Tryd.func13 (by kernel_rfl) rfl #[.agg #[.int .i64 300, .int .i64 900, .int .i64 70, .int .i64 0, .int .i64 0, .slice none 0 0, .slice none 0 0, .int .i64 0, .int .i64 0], .int .i64 600] rfl (by (try simp only [List.map_toArray, List.map_cons, List.map_nil]); first | done | rfl | (simp only [List.length_drop, List.length_take]; rfl)) ?_; (refine (webster_Allowed.calls 300 900 70 0 0 _ _ ([] : List (S55)) _ _ ([] : List (S120)) 0 0 600 t271 t272 _ ?side1 ?side2 ?side3 ?side4 A2.out).mono ?_); (case side1 => exact Kd.C_nil _ _); (case side2 => exact Nat.le_refl _); (case side3 => exact Kd.C_nil _ _); (case side4 => exact Nat.le_refl _); rintro e w47 ⟨rfl, hb⟩; refine ⟨_, rfl, ?_⟩; replace BK270 := Aside0.mk (blk_below (g := gb270) (o := .cells #[.int .i64 300, .int .i64 900, .int .i64 70, .int .i64 0, .int .i64 0, .slice none 0 0, .slice none 0 0, .int .i64 0, .int .i64 0] 32 (0, 0)) (by (with_reducible repeat (first | refine blk_drewN ?_ _ | refine blk_drew ?_ | refine blk_alloc ?_ _)); refine blk_put (cs := #[.int .i64 300, .int .i64 900, .int .i64 70, .int .i64 0, .int .i64 0, .slice none 0 0, .slice none 0 0, .int .i64 0, .int .i64 0]) ?_ 8 _ rfl; (with_reducible repeat (first | refine blk_drewN ?_ _ | refine blk_drew ?_ | refine blk_alloc ?_ _)); refine blk_put (cs := #[.int .i64 300, .int .i64 900, .int .i64 70, .int .i64 0, .int .i64 0, .slice none 0 0, .slice none 0 0, .int .i64 0, .int .i64 0]) ?_ 7 _ rfl; (with_reducible repeat (first | refine blk_drewN ?_ _ | refine blk_drew ?_ | refine blk_alloc ?_ _)); refine blk_put (cs := #[.int .i64 300, .int .i64 900, .int .i64 70, .int .i64 0, .int .i64 0, .slice none 0 0, .slice none 0 0, .int .i64 0, .int .i64 0]) ?_ 6 _ rfl; (with_reducible repeat (first | refine blk_drewN ?_ _ | refine blk_drew ?_ | refine blk_alloc ?_ _)); refine blk_put (cs := #[.int .i64 300, .int .i64 900, .int .i64 70, .int .i64 0, .int .i64 0, .slice none 0 0, .slice none 0 0, .int .i64 0, .int .i64 0]) ?_ 5 _ rfl; (with_reducible repeat (first | refine blk_drewN ?_ _ | refine blk_drew ?_ | refine blk_alloc ?_ _)); refine blk_put (cs := #[.int .i64 300, .int .i64 900, .int .i64 70, .int .i64 0, .int .i64 0, .slice none 0 0, .slice none 0 0, .int .i64 0, .int .i64 0]) ?_ 4 _ rfl; (with_reducible repeat (first | refine blk_drewN ?_ _ | refine blk_drew ?_ | refine blk_alloc ?_ _)); refine blk_put (cs := #[.int .i64 300, .int .i64 900, .int .i64 70, .int .i64 0, .int .i64 0, .slice none 0 0, .slice none 0 0, .int .i64 0, .int .i64 0]) ?_ 3 _ rfl; (with_reducible repeat (first | refine blk_drewN ?_ _ | refine blk_drew ?_ | refine blk_alloc ?_ _)); refine blk_put (cs := #[.int .i64 300, .int .i64 900, .int .i64 0, .int .i64 0, .int .i64 0, .slice none 0 0, .slice none 0 0, .int .i64 0, .int .i64 0]) ?_ 2 _ rfl; (with_reducible repeat (first | refine blk_drewN ?_ _ | refine blk_drew ?_ | refine blk_alloc ?_ _)); refine blk_put (cs := #[.int .i64 300, .int .i64 0, .int .i64 0, .int .i64 0, .int .i64 0, .slice none 0 0, .slice none 0 0, .int .i64 0, .int .i64 0]) ?_ 1 _ rfl; (with_reducible repeat (first | refine blk_drewN ?_ _ | refine blk_drew ?_ | refine blk_alloc ?_ _)); refine blk_put (cs := #[.int .i64 0, .int .i64 0, .int .i64 0, .int .i64 0, .int .i64 0, .slice none 0 0, .slice none 0 0, .int .i64 0, .int .i64 0]) ?_ 0 _ rfl; (with_reducible repeat (first | refine blk_drewN ?_ _ | refine blk_drew ?_ | refine blk_alloc ?_ _)); exact BK270.out) hb); replace HB := bs HB hb; (try clear hb); (try clear hb2); (try clear hk); (try clear hi); have hcz48_0 := bc (v := .int .i64 300) BK270 0 rfl; have hcz48_1 := bc (v := .int .i64 900) BK270 1 rfl; have hcz48_2 := bc (v := .int .i64 70) BK270 2 rfl; have hcz48_3 := bc (v := .int .i64 0) BK270 3 rfl; have hcz48_4 := bc (v := .int .i64 0) BK270 4 rfl; have hcz48_5 := bc (v := .slice none 0 0) BK270 5 rfl; have hcz48_6 := bc (v := .slice none 0 0) BK270 6 rfl; have hcz48_7 := bc (v := .int .i64 0) BK270 7 rfl; have hcz48_8 := bc (v := .int .i64 0) BK270 8 rfl; have hfz48_0 := blk_frozen BK270.out 0; have hfz48_1 := blk_frozen BK270.out 1; have hfz48_2 := blk_frozen BK270.out 2; have hfz48_3 := blk_frozen BK270.out 3; have hfz48_4 := blk_frozen BK270.out 4; have hfz48_5 := blk_frozen BK270.out 5; have hfz48_6 := blk_frozen BK270.out 6; have hfz48_7 := blk_frozen BK270.out 7; have hfz48_8 := blk_frozen BK270.out 8) | ((with_reducible refine gate_callee (f := 13) rfl ?_); refine goesL_ (some 23) rfl rfl Tryd.func13 (by kernel_rfl) rfl #[.agg #[.int .i64 300, .int .i64 900, .int .i64 70, .int .i64 0, .int .i64 0, .slice none 0 0, .slice none 0 0, .int .i64 0, .int .i64 0], .int .i64 870] rfl (by (try simp only [List.map_toArray, List.map_cons, List.map_nil]); first | done | rfl | (simp only [List.length_drop, List.length_take]; rfl)) ?_; (refine (webster_Allowed.calls 300 900 70 0 0 _ _ ([] : List (S55)) _ _ ([] : List (S120)) 0 0 870 t273 t274 _ ?side1 ?side2 ?side3 ?side4 A3.out).mono ?_); (case side1 => exact Kd.C_nil _ _); (case side2 => exact Nat.le_refl _); (case side3 => exact Kd.C_nil _ _); (case side4 => exact Nat.le_refl _); rintro e w49 ⟨rfl, hb⟩; refine ⟨_, rfl, ?_⟩; replace BK270 := bb BK270 hb; replace HB := bs HB hb; (try clear hb); (try clear hb2); (try clear hk); (try clear hi)))
        go_ret
        exact ⟨by first | rfl | (simp [errW_none, errW_some] <;> rfl) | (simp [*, errW_none, errW_some] <;> rfl), by repeat (first | (with_reducible first | exact HB.out | apply below_alloc | apply pw_below_drewN | apply below_drew1 | refine below_set ?_ GE270.out) | exact HB.out)⟩
    · replace c5 := Bool.eq_false_iff.mpr c5
      subst c5
      have H1 : (some false) = some r := by rw [if_neg (show ¬ (false = true) by decide)] at H; exact H
      clear H
      have H := H1
      clear H1
      obtain rfl := Option.some.inj H
      go_enter Tryd.func12, Tryd.ntmps12
      go_wp2_with (first | ((with_reducible refine gate_callee (f := 10) rfl ?_); refine goesL_ (some 11) rfl rfl Tryd.func10 (by kernel_rfl) rfl #[.int .i64 120, .agg #[.int .i64 1, .int .i64 2]] rfl (by (try simp only [List.map_toArray, List.map_cons, List.map_nil]); first | done | rfl | (simp only [List.length_drop, List.length_take]; rfl)) ?_; (with_reducible refine (webster_Cycle.calls k 120 1 2 t267 false t269 _ A1.out ?hT).mono ?_); (case hT => first | exact tb GT.out HB | exact tb0 GT.out); rintro e w50 ⟨rfl, hb⟩; refine ⟨_, rfl, ?_⟩; replace HB := bs HB hb; (try clear hb); (try clear hb2); (try clear hk); (try clear hi)) | ((with_reducible refine gate_dst (N := 4) rfl ?_); refine box_event ?hg (N := 4) ?hd (cs := #[.int .i64 0, .int .i64 0, .int .i64 0, .int .i64 0, .int .i64 0, .slice none 0 0, .slice none 0 0, .int .i64 0, .int .i64 0]) (t := 32) ?hr ?_; (case hd => rfl); (case hg => rfl); (case hr => first | (go_simp; done) | (go_simp; rfl)); intro gb270 hg w51 hbox hb; have BK270 := Aside0.mk (hbox); have GW270 := bz HB hg; have GE270 := bz HB hg; replace HB := bs HB hb; clear hb hbox hg; have hcz52_0 := bc (v := .int .i64 0) BK270 0 rfl; have hcz52_1 := bc (v := .int .i64 0) BK270 1 rfl; have hcz52_2 := bc (v := .int .i64 0) BK270 2 rfl; have hcz52_3 := bc (v := .int .i64 0) BK270 3 rfl; have hcz52_4 := bc (v := .int .i64 0) BK270 4 rfl; have hcz52_5 := bc (v := .slice none 0 0) BK270 5 rfl; have hcz52_6 := bc (v := .slice none 0 0) BK270 6 rfl; have hcz52_7 := bc (v := .int .i64 0) BK270 7 rfl; have hcz52_8 := bc (v := .int .i64 0) BK270 8 rfl; have hfz52_0 := blk_frozen BK270.out 0; have hfz52_1 := blk_frozen BK270.out 1; have hfz52_2 := blk_frozen BK270.out 2; have hfz52_3 := blk_frozen BK270.out 3; have hfz52_4 := blk_frozen BK270.out 4; have hfz52_5 := blk_frozen BK270.out 5; have hfz52_6 := blk_frozen BK270.out 6; have hfz52_7 := blk_frozen BK270.out 7; have hfz52_8 := blk_frozen BK270.out 8) | ((with_reducible refine gate_callee (f := 13) rfl ?_); refine goesL_ (some 18) rfl rfl Tryd.func13 (by kernel_rfl) rfl #[.agg #[.int .i64 300, .int .i64 900, .int .i64 70, .int .i64 0, .int .i64 0, .slice none 0 0, .slice none 0 0, .int .i64 0, .int .i64 0], .int .i64 600] rfl (by (try simp only [List.map_toArray, List.map_cons, List.map_nil]); first | done | rfl | (simp only [List.length_drop, List.length_take]; rfl)) ?_; (refine (webster_Allowed.calls 300 900 70 0 0 _ _ ([] : List (S55)) _ _ ([] : List (S120)) 0 0 600 t271 t272 _ ?side1 ?side2 ?side3 ?side4 A2.out).mono ?_); (case side1 => exact Kd.C_nil _ _); (case side2 => exact Nat.le_refl _); (case side3 => exact Kd.C_nil _ _); (case side4 => exact Nat.le_refl _); rintro e w53 ⟨rfl, hb⟩; refine ⟨_, rfl, ?_⟩; replace BK270 := Aside0.mk (blk_below (g := gb270) (o := .cells #[.int .i64 300, .int .i64 900, .int .i64 70, .int .i64 0, .int .i64 0, .slice none 0 0, .slice none 0 0, .int .i64 0, .int .i64 0] 32 (0, 0)) (by (with_reducible repeat (first | refine blk_drewN ?_ _ | refine blk_drew ?_ | refine blk_alloc ?_ _)); refine blk_put (cs := #[.int .i64 300, .int .i64 900, .int .i64 70, .int .i64 0, .int .i64 0, .slice none 0 0, .slice none 0 0, .int .i64 0, .int .i64 0]) ?_ 8 _ rfl; (with_reducible repeat (first | refine blk_drewN ?_ _ | refine blk_drew ?_ | refine blk_alloc ?_ _)); refine blk_put (cs := #[.int .i64 300, .int .i64 900, .int .i64 70, .int .i64 0, .int .i64 0, .slice none 0 0, .slice none 0 0, .int .i64 0, .int .i64 0]) ?_ 7 _ rfl; (with_reducible repeat (first | refine blk_drewN ?_ _ | refine blk_drew ?_ | refine blk_alloc ?_ _)); refine blk_put (cs := #[.int .i64 300, .int .i64 900, .int .i64 70, .int .i64 0, .int .i64 0, .slice none 0 0, .slice none 0 0, .int .i64 0, .int .i64 0]) ?_ 6 _ rfl; (with_reducible repeat (first | refine blk_drewN ?_ _ | refine blk_drew ?_ | refine blk_alloc ?_ _)); refine blk_put (cs := #[.int .i64 300, .int .i64 900, .int .i64 70, .int .i64 0, .int .i64 0, .slice none 0 0, .slice none 0 0, .int .i64 0, .int .i64 0]) ?_ 5 _ rfl; (with_reducible repeat (first | refine blk_drewN ?_ _ | refine blk_drew ?_ | refine blk_alloc ?_ _)); refine blk_put (cs := #[.int .i64 300, .int .i64 900, .int .i64 70, .int .i64 0, .int .i64 0, .slice none 0 0, .slice none 0 0, .int .i64 0, .int .i64 0]) ?_ 4 _ rfl; (with_reducible repeat (first | refine blk_drewN ?_ _ | refine blk_drew ?_ | refine blk_alloc ?_ _)); refine blk_put (cs := #[.int .i64 300, .int .i64 900, .int .i64 70, .int .i64 0, .int .i64 0, .slice none 0 0, .slice none 0 0, .int .i64 0, .int .i64 0]) ?_ 3 _ rfl; (with_reducible repeat (first | refine blk_drewN ?_ _ | refine blk_drew ?_ | refine blk_alloc ?_ _)); refine blk_put (cs := #[.int .i64 300, .int .i64 900, .int .i64 0, .int .i64 0, .int .i64 0, .slice none 0 0, .slice none 0 0, .int .i64 0, .int .i64 0]) ?_ 2 _ rfl; (with_reducible repeat (first | refine blk_drewN ?_ _ | refine blk_drew ?_ | refine blk_alloc ?_ _)); refine blk_put (cs := #[.int .i64 300, .int .i64 0, .int .i64 0, .int .i64 0, .int .i64 0, .slice none 0 0, .slice none 0 0, .int .i64 0, .int .i64 0]) ?_ 1 _ rfl; (with_reducible repeat (first | refine blk_drewN ?_ _ | refine blk_drew ?_ | refine blk_alloc ?_ _)); refine blk_put (cs := #[.int .i64 0, .int .i64 0, .int .i64 0, .int .i64 0, .int .i64 0, .slice none 0 0, .slice none 0 0, .int .i64 0, .int .i64 0]) ?_ 0 _ rfl; (with_reducible repeat (first | refine blk_drewN ?_ _ | refine blk_drew ?_ | refine blk_alloc ?_ _)); exact BK270.out) hb); replace HB := bs HB hb; (try clear hb); (try clear hb2); (try clear hk); (try clear hi); have hcz54_0 := bc (v := .int .i64 300) BK270 0 rfl; have hcz54_1 := bc (v := .int .i64 900) BK270 1 rfl; have hcz54_2 := bc (v := .int .i64 70) BK270 2 rfl; have hcz54_3 := bc (v := .int .i64 0) BK270 3 rfl; have hcz54_4 := bc (v := .int .i64 0) BK270 4 rfl; have hcz54_5 := bc (v := .slice none 0 0) BK270 5 rfl; have hcz54_6 := bc (v := .slice none 0 0) BK270 6 rfl; have hcz54_7 := bc (v := .int .i64 0) BK270 7 rfl; have hcz54_8 := bc (v := .int .i64 0) BK270 8 rfl; have hfz54_0 := blk_frozen BK270.out 0; have hfz54_1 := blk_frozen BK270.out 1; have hfz54_2 := blk_frozen BK270.out 2; have hfz54_3 := blk_frozen BK270.out 3; have hfz54_4 := blk_frozen BK270.out 4; have hfz54_5 := blk_frozen BK270.out 5; have hfz54_6 := blk_frozen BK270.out 6; have hfz54_7 := blk_frozen BK270.out 7; have hfz54_8 := blk_frozen BK270.out 8) | ((with_reducible refine gate_callee (f := 13) rfl ?_); refine goesL_ (some 23) rfl rfl Tryd.func13 (by kernel_rfl) rfl #[.agg #[.int .i64 300, .int .i64 900, .int .i64 70, .int .i64 0, .int .i64 0, .slice none 0 0, .slice none 0 0, .int .i64 0, .int .i64 0], .int .i64 870] rfl (by (try simp only [List.map_toArray, List.map_cons, List.map_nil]); first | done | rfl | (simp only [List.length_drop, List.length_take]; rfl)) ?_; (refine (webster_Allowed.calls 300 900 70 0 0 _ _ ([] : List (S55)) _ _ ([] : List (S120)) 0 0 870 t273 t274 _ ?side1 ?side2 ?side3 ?side4 A3.out).mono ?_); (case side1 => exact Kd.C_nil _ _); (case side2 => exact Nat.le_refl _); (case side3 => exact Kd.C_nil _ _); (case side4 => exact Nat.le_refl _); rintro e w55 ⟨rfl, hb⟩; refine ⟨_, rfl, ?_⟩; replace BK270 := bb BK270 hb; replace HB := bs HB hb; (try clear hb); (try clear hb2); (try clear hk); (try clear hi)))
      go_ret
      exact ⟨by first | rfl | (simp [errW_none, errW_some] <;> rfl) | (simp [*, errW_none, errW_some] <;> rfl), by repeat (first | (with_reducible first | exact HB.out | apply below_alloc | apply pw_below_drewN | apply below_drew1 | refine below_set ?_ GE270.out) | exact HB.out)⟩
  · rw [if_neg c4] at H
    have c4b0 : (t269 == 0) = false := beq_eq_false_iff_ne.mpr c4
    have c4b1 : (t269 != 0) = true := bne_iff_ne.mpr c4
    obtain rfl := Option.some.inj H
    go_enter Tryd.func12, Tryd.ntmps12
    go_wp2_with (first | ((with_reducible refine gate_callee (f := 10) rfl ?_); refine goesL_ (some 11) rfl rfl Tryd.func10 (by kernel_rfl) rfl #[.int .i64 120, .agg #[.int .i64 1, .int .i64 2]] rfl (by (try simp only [List.map_toArray, List.map_cons, List.map_nil]); first | done | rfl | (simp only [List.length_drop, List.length_take]; rfl)) ?_; (with_reducible refine (webster_Cycle.calls k 120 1 2 t267 t268 t269 _ A1.out ?hT).mono ?_); (case hT => first | exact tb GT.out HB | exact tb0 GT.out); rintro e w56 ⟨rfl, hb⟩; refine ⟨_, rfl, ?_⟩; replace HB := bs HB hb; (try clear hb); (try clear hb2); (try clear hk); (try clear hi)) | ((with_reducible refine gate_dst (N := 4) rfl ?_); refine box_event ?hg (N := 4) ?hd (cs := #[.int .i64 0, .int .i64 0, .int .i64 0, .int .i64 0, .int .i64 0, .slice none 0 0, .slice none 0 0, .int .i64 0, .int .i64 0]) (t := 32) ?hr ?_; (case hd => rfl); (case hg => rfl); (case hr => first | (go_simp; done) | (go_simp; rfl)); intro gb270 hg w57 hbox hb; have BK270 := Aside0.mk (hbox); have GW270 := bz HB hg; have GE270 := bz HB hg; replace HB := bs HB hb; clear hb hbox hg; have hcz58_0 := bc (v := .int .i64 0) BK270 0 rfl; have hcz58_1 := bc (v := .int .i64 0) BK270 1 rfl; have hcz58_2 := bc (v := .int .i64 0) BK270 2 rfl; have hcz58_3 := bc (v := .int .i64 0) BK270 3 rfl; have hcz58_4 := bc (v := .int .i64 0) BK270 4 rfl; have hcz58_5 := bc (v := .slice none 0 0) BK270 5 rfl; have hcz58_6 := bc (v := .slice none 0 0) BK270 6 rfl; have hcz58_7 := bc (v := .int .i64 0) BK270 7 rfl; have hcz58_8 := bc (v := .int .i64 0) BK270 8 rfl; have hfz58_0 := blk_frozen BK270.out 0; have hfz58_1 := blk_frozen BK270.out 1; have hfz58_2 := blk_frozen BK270.out 2; have hfz58_3 := blk_frozen BK270.out 3; have hfz58_4 := blk_frozen BK270.out 4; have hfz58_5 := blk_frozen BK270.out 5; have hfz58_6 := blk_frozen BK270.out 6; have hfz58_7 := blk_frozen BK270.out 7; have hfz58_8 := blk_frozen BK270.out 8) | ((with_reducible refine gate_callee (f := 13) rfl ?_); refine goesL_ (some 18) rfl rfl Tryd.func13 (by kernel_rfl) rfl #[.agg #[.int .i64 300, .int .i64 900, .int .i64 70, .int .i64 0, .int .i64 0, .slice none 0 0, .slice none 0 0, .int .i64 0, .int .i64 0], .int .i64 600] rfl (by (try simp only [List.map_toArray, List.map_cons, List.map_nil]); first | done | rfl | (simp only [List.length_drop, List.length_take]; rfl)) ?_; (refine (webster_Allowed.calls 300 900 70 0 0 _ _ ([] : List (S55)) _ _ ([] : List (S120)) 0 0 600 t271 t272 _ ?side1 ?side2 ?side3 ?side4 A2.out).mono ?_); (case side1 => exact Kd.C_nil _ _); (case side2 => exact Nat.le_refl _); (case side3 => exact Kd.C_nil _ _); (case side4 => exact Nat.le_refl _); rintro e w59 ⟨rfl, hb⟩; refine ⟨_, rfl, ?_⟩; replace BK270 := Aside0.mk (blk_below (g := gb270) (o := .cells #[.int .i64 300, .int .i64 900, .int .i64 70, .int .i64 0, .int .i64 0, .slice none 0 0, .slice none 0 0, .int .i64 0, .int .i64 0] 32 (0, 0)) (by (with_reducible repeat (first | refine blk_drewN ?_ _ | refine blk_drew ?_ | refine blk_alloc ?_ _)); refine blk_put (cs := #[.int .i64 300, .int .i64 900, .int .i64 70, .int .i64 0, .int .i64 0, .slice none 0 0, .slice none 0 0, .int .i64 0, .int .i64 0]) ?_ 8 _ rfl; (with_reducible repeat (first | refine blk_drewN ?_ _ | refine blk_drew ?_ | refine blk_alloc ?_ _)); refine blk_put (cs := #[.int .i64 300, .int .i64 900, .int .i64 70, .int .i64 0, .int .i64 0, .slice none 0 0, .slice none 0 0, .int .i64 0, .int .i64 0]) ?_ 7 _ rfl; (with_reducible repeat (first | refine blk_drewN ?_ _ | refine blk_drew ?_ | refine blk_alloc ?_ _)); refine blk_put (cs := #[.int .i64 300, .int .i64 900, .int .i64 70, .int .i64 0, .int .i64 0, .slice none 0 0, .slice none 0 0, .int .i64 0, .int .i64 0]) ?_ 6 _ rfl; (with_reducible repeat (first | refine blk_drewN ?_ _ | refine blk_drew ?_ | refine blk_alloc ?_ _)); refine blk_put (cs := #[.int .i64 300, .int .i64 900, .int .i64 70, .int .i64 0, .int .i64 0, .slice none 0 0, .slice none 0 0, .int .i64 0, .int .i64 0]) ?_ 5 _ rfl; (with_reducible repeat (first | refine blk_drewN ?_ _ | refine blk_drew ?_ | refine blk_alloc ?_ _)); refine blk_put (cs := #[.int .i64 300, .int .i64 900, .int .i64 70, .int .i64 0, .int .i64 0, .slice none 0 0, .slice none 0 0, .int .i64 0, .int .i64 0]) ?_ 4 _ rfl; (with_reducible repeat (first | refine blk_drewN ?_ _ | refine blk_drew ?_ | refine blk_alloc ?_ _)); refine blk_put (cs := #[.int .i64 300, .int .i64 900, .int .i64 70, .int .i64 0, .int .i64 0, .slice none 0 0, .slice none 0 0, .int .i64 0, .int .i64 0]) ?_ 3 _ rfl; (with_reducible repeat (first | refine blk_drewN ?_ _ | refine blk_drew ?_ | refine blk_alloc ?_ _)); refine blk_put (cs := #[.int .i64 300, .int .i64 900, .int .i64 0, .int .i64 0, .int .i64 0, .slice none 0 0, .slice none 0 0, .int .i64 0, .int .i64 0]) ?_ 2 _ rfl; (with_reducible repeat (first | refine blk_drewN ?_ _ | refine blk_drew ?_ | refine blk_alloc ?_ _)); refine blk_put (cs := #[.int .i64 300, .int .i64 0, .int .i64 0, .int .i64 0, .int .i64 0, .slice none 0 0, .slice none 0 0, .int .i64 0, .int .i64 0]) ?_ 1 _ rfl; (with_reducible repeat (first | refine blk_drewN ?_ _ | refine blk_drew ?_ | refine blk_alloc ?_ _)); refine blk_put (cs := #[.int .i64 0, .int .i64 0, .int .i64 0, .int .i64 0, .int .i64 0, .slice none 0 0, .slice none 0 0, .int .i64 0, .int .i64 0]) ?_ 0 _ rfl; (with_reducible repeat (first | refine blk_drewN ?_ _ | refine blk_drew ?_ | refine blk_alloc ?_ _)); exact BK270.out) hb); replace HB := bs HB hb; (try clear hb); (try clear hb2); (try clear hk); (try clear hi); have hcz60_0 := bc (v := .int .i64 300) BK270 0 rfl; have hcz60_1 := bc (v := .int .i64 900) BK270 1 rfl; have hcz60_2 := bc (v := .int .i64 70) BK270 2 rfl; have hcz60_3 := bc (v := .int .i64 0) BK270 3 rfl; have hcz60_4 := bc (v := .int .i64 0) BK270 4 rfl; have hcz60_5 := bc (v := .slice none 0 0) BK270 5 rfl; have hcz60_6 := bc (v := .slice none 0 0) BK270 6 rfl; have hcz60_7 := bc (v := .int .i64 0) BK270 7 rfl; have hcz60_8 := bc (v := .int .i64 0) BK270 8 rfl; have hfz60_0 := blk_frozen BK270.out 0; have hfz60_1 := blk_frozen BK270.out 1; have hfz60_2 := blk_frozen BK270.out 2; have hfz60_3 := blk_frozen BK270.out 3; have hfz60_4 := blk_frozen BK270.out 4; have hfz60_5 := blk_frozen BK270.out 5; have hfz60_6 := blk_frozen BK270.out 6; have hfz60_7 := blk_frozen BK270.out 7; have hfz60_8 := blk_frozen BK270.out 8) | ((with_reducible refine gate_callee (f := 13) rfl ?_); refine goesL_ (some 23) rfl rfl Tryd.func13 (by kernel_rfl) rfl #[.agg #[.int .i64 300, .int .i64 900, .int .i64 70, .int .i64 0, .int .i64 0, .slice none 0 0, .slice none 0 0, .int .i64 0, .int .i64 0], .int .i64 870] rfl (by (try simp only [List.map_toArray, List.map_cons, List.map_nil]); first | done | rfl | (simp only [List.length_drop, List.length_take]; rfl)) ?_; (refine (webster_Allowed.calls 300 900 70 0 0 _ _ ([] : List (S55)) _ _ ([] : List (S120)) 0 0 870 t273 t274 _ ?side1 ?side2 ?side3 ?side4 A3.out).mono ?_); (case side1 => exact Kd.C_nil _ _); (case side2 => exact Nat.le_refl _); (case side3 => exact Kd.C_nil _ _); (case side4 => exact Nat.le_refl _); rintro e w61 ⟨rfl, hb⟩; refine ⟨_, rfl, ?_⟩; replace BK270 := bb BK270 hb; replace HB := bs HB hb; (try clear hb); (try clear hb2); (try clear hk); (try clear hi)))
    go_ret
    exact ⟨by first | rfl | (simp [errW_none, errW_some] <;> rfl) | (simp [*, errW_none, errW_some] <;> rfl), by repeat (first | (with_reducible first | exact HB.out | apply below_alloc | apply pw_below_drewN | apply below_drew1 | refine below_set ?_ GE270.out) | exact HB.out)⟩

/-! ### carrefourref12_Cycles: function 20 -/
def carrefourref12_Cycles.f (a0_0 : Int) (a0_1 : Int) (a0_2 : Int) (a0_3 : Int) (a0_4 : Int) (l0_5 : List (S55)) (l0_6 : List (S120)) (a0_7 : Int) (a0_8 : Int) : Option (Bool) := if a0_0 ≥ 1 then (if a0_1 ≥ a0_0 then (if a0_1 ≤ 6000 then (some (decide (a0_2 ≥ 1))) else (some false)) else (some false)) else (some false)
set_option maxHeartbeats 8000000 in
set_option maxRecDepth 100000 in
theorem carrefourref12_Cycles.calls (a0_0 : Int) (a0_1 : Int) (a0_2 : Int) (a0_3 : Int) (a0_4 : Int) (A0_5 : Option Addr) (c0_5 : Nat) (l0_5 : List (S55)) (A0_6 : Option Addr) (c0_6 : Nat) (l0_6 : List (S120)) (a0_7 : Int) (a0_8 : Int) (r : Bool) (w : World) (hr0_5 : Kd.C k55 w A0_5 l0_5.length l0_5) (hc0_5 : l0_5.length ≤ c0_5) (hr0_6 : Kd.C k120 w A0_6 l0_6.length l0_6) (hc0_6 : l0_6.length ≤ c0_6) (h : carrefourref12_Cycles.f a0_0 a0_1 a0_2 a0_3 a0_4 l0_5 l0_6 a0_7 a0_8 = some r) :
    Calls Tryd.prog 20 #[.agg #[.int .i64 a0_0, .int .i64 a0_1, .int .i64 a0_2, .int .i64 a0_3, .int .i64 a0_4, .slice A0_5 l0_5.length c0_5, .slice A0_6 l0_6.length c0_6, .int .i64 a0_7, .int .i64 a0_8]] w fun e w' => e = .returned (.bool r) ∧ Below w.heap.size w w' := by
  have hu32 := Tryd.underlying32
  have HR0_5 := Aside0.mk hr0_5
  have HC0_5 := Aside0.mk hc0_5
  clear hr0_5 hc0_5
  have HR0_6 := Aside0.mk hr0_6
  have HC0_6 := Aside0.mk hc0_6
  clear hr0_6 hc0_6
  have HB := Aside0.mk (Below.refl w.heap.size w)
  have H : (if a0_0 ≥ 1 then (if a0_1 ≥ a0_0 then (if a0_1 ≤ 6000 then (some (decide (a0_2 ≥ 1))) else (some false)) else (some false)) else (some false)) = some r := h
  clear h
  by_cases c2 : a0_0 ≥ 1
  · rw [if_pos c2] at H
    have c2b0 : decide (1 ≤ a0_0) = true := decide_eq_true c2
    clear c2
    by_cases c3 : a0_1 ≥ a0_0
    · rw [if_pos c3] at H
      have c3b0 : decide (a0_0 ≤ a0_1) = true := decide_eq_true c3
      clear c3
      by_cases c4 : a0_1 ≤ 6000
      · rw [if_pos c4] at H
        have c4b0 : decide (a0_1 ≤ 6000) = true := decide_eq_true c4
        clear c4
        obtain rfl := Option.some.inj H
        go_enter Tryd.func20, Tryd.ntmps20
        go_wp2_with (first | ((with_reducible refine gate_dst (N := 1) rfl ?_); refine box_event ?hg (N := 1) ?hd (cs := #[.int .i64 a0_0, .int .i64 a0_1, .int .i64 a0_2, .int .i64 a0_3, .int .i64 a0_4, .slice A0_5 l0_5.length c0_5, .slice A0_6 l0_6.length c0_6, .int .i64 a0_7, .int .i64 a0_8]) (t := 32) ?hr ?_; (case hd => rfl); (case hg => rfl); (case hr => first | (go_simp; done) | (go_simp; rfl)); intro gb276 hg w5 hbox hb; have BK276 := Aside0.mk (hbox); have GW276 := bz HB hg; have GE276 := bz HB hg; replace HB := bs HB hb; clear hb hbox hg; have hcz6_0 := bc (v := .int .i64 a0_0) BK276 0 rfl; have hcz6_1 := bc (v := .int .i64 a0_1) BK276 1 rfl; have hcz6_2 := bc (v := .int .i64 a0_2) BK276 2 rfl; have hcz6_3 := bc (v := .int .i64 a0_3) BK276 3 rfl; have hcz6_4 := bc (v := .int .i64 a0_4) BK276 4 rfl; have hcz6_5 := bc (v := .slice A0_5 l0_5.length c0_5) BK276 5 rfl; have hcz6_6 := bc (v := .slice A0_6 l0_6.length c0_6) BK276 6 rfl; have hcz6_7 := bc (v := .int .i64 a0_7) BK276 7 rfl; have hcz6_8 := bc (v := .int .i64 a0_8) BK276 8 rfl; have hfz6_0 := blk_frozen BK276.out 0; have hfz6_1 := blk_frozen BK276.out 1; have hfz6_2 := blk_frozen BK276.out 2; have hfz6_3 := blk_frozen BK276.out 3; have hfz6_4 := blk_frozen BK276.out 4; have hfz6_5 := blk_frozen BK276.out 5; have hfz6_6 := blk_frozen BK276.out 6; have hfz6_7 := blk_frozen BK276.out 7; have hfz6_8 := blk_frozen BK276.out 8))
        go_ret
        exact ⟨by first | rfl | (simp [errW_none, errW_some] <;> rfl) | (simp [*, errW_none, errW_some] <;> rfl), by repeat (first | (with_reducible first | exact HB.out | apply below_alloc | apply pw_below_drewN | apply below_drew1 | refine below_set ?_ GE276.out) | exact HB.out)⟩
      · rw [if_neg c4] at H
        have c4b0 : decide (a0_1 ≤ 6000) = false := decide_eq_false c4
        clear c4
        obtain rfl := Option.some.inj H
        go_enter Tryd.func20, Tryd.ntmps20
        go_wp2_with (first | ((with_reducible refine gate_dst (N := 1) rfl ?_); refine box_event ?hg (N := 1) ?hd (cs := #[.int .i64 a0_0, .int .i64 a0_1, .int .i64 a0_2, .int .i64 a0_3, .int .i64 a0_4, .slice A0_5 l0_5.length c0_5, .slice A0_6 l0_6.length c0_6, .int .i64 a0_7, .int .i64 a0_8]) (t := 32) ?hr ?_; (case hd => rfl); (case hg => rfl); (case hr => first | (go_simp; done) | (go_simp; rfl)); intro gb276 hg w7 hbox hb; have BK276 := Aside0.mk (hbox); have GW276 := bz HB hg; have GE276 := bz HB hg; replace HB := bs HB hb; clear hb hbox hg; have hcz8_0 := bc (v := .int .i64 a0_0) BK276 0 rfl; have hcz8_1 := bc (v := .int .i64 a0_1) BK276 1 rfl; have hcz8_2 := bc (v := .int .i64 a0_2) BK276 2 rfl; have hcz8_3 := bc (v := .int .i64 a0_3) BK276 3 rfl; have hcz8_4 := bc (v := .int .i64 a0_4) BK276 4 rfl; have hcz8_5 := bc (v := .slice A0_5 l0_5.length c0_5) BK276 5 rfl; have hcz8_6 := bc (v := .slice A0_6 l0_6.length c0_6) BK276 6 rfl; have hcz8_7 := bc (v := .int .i64 a0_7) BK276 7 rfl; have hcz8_8 := bc (v := .int .i64 a0_8) BK276 8 rfl; have hfz8_0 := blk_frozen BK276.out 0; have hfz8_1 := blk_frozen BK276.out 1; have hfz8_2 := blk_frozen BK276.out 2; have hfz8_3 := blk_frozen BK276.out 3; have hfz8_4 := blk_frozen BK276.out 4; have hfz8_5 := blk_frozen BK276.out 5; have hfz8_6 := blk_frozen BK276.out 6; have hfz8_7 := blk_frozen BK276.out 7; have hfz8_8 := blk_frozen BK276.out 8))
        go_ret
        exact ⟨by first | rfl | (simp [errW_none, errW_some] <;> rfl) | (simp [*, errW_none, errW_some] <;> rfl), by repeat (first | (with_reducible first | exact HB.out | apply below_alloc | apply pw_below_drewN | apply below_drew1 | refine below_set ?_ GE276.out) | exact HB.out)⟩
    · rw [if_neg c3] at H
      have c3b0 : decide (a0_0 ≤ a0_1) = false := decide_eq_false c3
      clear c3
      obtain rfl := Option.some.inj H
      go_enter Tryd.func20, Tryd.ntmps20
      go_wp2_with (first | ((with_reducible refine gate_dst (N := 1) rfl ?_); refine box_event ?hg (N := 1) ?hd (cs := #[.int .i64 a0_0, .int .i64 a0_1, .int .i64 a0_2, .int .i64 a0_3, .int .i64 a0_4, .slice A0_5 l0_5.length c0_5, .slice A0_6 l0_6.length c0_6, .int .i64 a0_7, .int .i64 a0_8]) (t := 32) ?hr ?_; (case hd => rfl); (case hg => rfl); (case hr => first | (go_simp; done) | (go_simp; rfl)); intro gb276 hg w9 hbox hb; have BK276 := Aside0.mk (hbox); have GW276 := bz HB hg; have GE276 := bz HB hg; replace HB := bs HB hb; clear hb hbox hg; have hcz10_0 := bc (v := .int .i64 a0_0) BK276 0 rfl; have hcz10_1 := bc (v := .int .i64 a0_1) BK276 1 rfl; have hcz10_2 := bc (v := .int .i64 a0_2) BK276 2 rfl; have hcz10_3 := bc (v := .int .i64 a0_3) BK276 3 rfl; have hcz10_4 := bc (v := .int .i64 a0_4) BK276 4 rfl; have hcz10_5 := bc (v := .slice A0_5 l0_5.length c0_5) BK276 5 rfl; have hcz10_6 := bc (v := .slice A0_6 l0_6.length c0_6) BK276 6 rfl; have hcz10_7 := bc (v := .int .i64 a0_7) BK276 7 rfl; have hcz10_8 := bc (v := .int .i64 a0_8) BK276 8 rfl; have hfz10_0 := blk_frozen BK276.out 0; have hfz10_1 := blk_frozen BK276.out 1; have hfz10_2 := blk_frozen BK276.out 2; have hfz10_3 := blk_frozen BK276.out 3; have hfz10_4 := blk_frozen BK276.out 4; have hfz10_5 := blk_frozen BK276.out 5; have hfz10_6 := blk_frozen BK276.out 6; have hfz10_7 := blk_frozen BK276.out 7; have hfz10_8 := blk_frozen BK276.out 8))
      go_ret
      exact ⟨by first | rfl | (simp [errW_none, errW_some] <;> rfl) | (simp [*, errW_none, errW_some] <;> rfl), by repeat (first | (with_reducible first | exact HB.out | apply below_alloc | apply pw_below_drewN | apply below_drew1 | refine below_set ?_ GE276.out) | exact HB.out)⟩
  · rw [if_neg c2] at H
    have c2b0 : decide (1 ≤ a0_0) = false := decide_eq_false c2
    clear c2
    obtain rfl := Option.some.inj H
    go_enter Tryd.func20, Tryd.ntmps20
    go_wp2_with (first | ((with_reducible refine gate_dst (N := 1) rfl ?_); refine box_event ?hg (N := 1) ?hd (cs := #[.int .i64 a0_0, .int .i64 a0_1, .int .i64 a0_2, .int .i64 a0_3, .int .i64 a0_4, .slice A0_5 l0_5.length c0_5, .slice A0_6 l0_6.length c0_6, .int .i64 a0_7, .int .i64 a0_8]) (t := 32) ?hr ?_; (case hd => rfl); (case hg => rfl); (case hr => first | (go_simp; done) | (go_simp; rfl)); intro gb276 hg w11 hbox hb; have BK276 := Aside0.mk (hbox); have GW276 := bz HB hg; have GE276 := bz HB hg; replace HB := bs HB hb; clear hb hbox hg; have hcz12_0 := bc (v := .int .i64 a0_0) BK276 0 rfl; have hcz12_1 := bc (v := .int .i64 a0_1) BK276 1 rfl; have hcz12_2 := bc (v := .int .i64 a0_2) BK276 2 rfl; have hcz12_3 := bc (v := .int .i64 a0_3) BK276 3 rfl; have hcz12_4 := bc (v := .int .i64 a0_4) BK276 4 rfl; have hcz12_5 := bc (v := .slice A0_5 l0_5.length c0_5) BK276 5 rfl; have hcz12_6 := bc (v := .slice A0_6 l0_6.length c0_6) BK276 6 rfl; have hcz12_7 := bc (v := .int .i64 a0_7) BK276 7 rfl; have hcz12_8 := bc (v := .int .i64 a0_8) BK276 8 rfl; have hfz12_0 := blk_frozen BK276.out 0; have hfz12_1 := blk_frozen BK276.out 1; have hfz12_2 := blk_frozen BK276.out 2; have hfz12_3 := blk_frozen BK276.out 3; have hfz12_4 := blk_frozen BK276.out 4; have hfz12_5 := blk_frozen BK276.out 5; have hfz12_6 := blk_frozen BK276.out 6; have hfz12_7 := blk_frozen BK276.out 7; have hfz12_8 := blk_frozen BK276.out 8))
    go_ret
    exact ⟨by first | rfl | (simp [errW_none, errW_some] <;> rfl) | (simp [*, errW_none, errW_some] <;> rfl), by repeat (first | (with_reducible first | exact HB.out | apply below_alloc | apply pw_below_drewN | apply below_drew1 | refine below_set ?_ GE276.out) | exact HB.out)⟩

/-! ### carrefourref12_Allowed: function 14 -/
def carrefourref12_Allowed.l0 : Nat → Int → Int → Int → Int → Int → Int → Int → List (S55) → List (S120) → Int → Int → Option (Int × Bool)
  | 0, _, _, _, _, _, _, _, _, _, _, _ => none
  | k + 1, x1, x6, x278000, x278001, x278002, x278003, x278004, x278005, x278006, x278007, x278008 => if x6 < x1 then (if x278002 ≤ (wrap64 (x278001 - x6)) then (carrefourref12_Allowed.l0 k x1 (wrap64 (x6 + x278002)) x278000 x278001 x278002 x278003 x278004 x278005 x278006 x278007 x278008) else (some (x6, decide (x6 ≥ x1)))) else (some (x6, decide (x6 ≥ x1)))
def carrefourref12_Allowed.f (k : Nat) (a0_0 : Int) (a0_1 : Int) (a0_2 : Int) (a0_3 : Int) (a0_4 : Int) (l0_5 : List (S55)) (l0_6 : List (S120)) (a0_7 : Int) (a0_8 : Int) (a1 : Int) : Option (Int × Bool) := (carrefourref12_Cycles.f a0_0 a0_1 a0_2 a0_3 a0_4 l0_5 l0_6 a0_7 a0_8).bind fun t278 => (if t278 = true then (carrefourref12_Allowed.l0 k a1 a0_0 a0_0 a0_1 a0_2 a0_3 a0_4 l0_5 l0_6 a0_7 a0_8) else (some (0, false)))
theorem carrefourref12_Allowed.mono_l : ∀ k, (∀ y0 y1 y2 y3 y4 y5 y6 y7 y8 y9 y10, LeO (carrefourref12_Allowed.l0 k y0 y1 y2 y3 y4 y5 y6 y7 y8 y9 y10) (carrefourref12_Allowed.l0 (k + 1) y0 y1 y2 y3 y4 y5 y6 y7 y8 y9 y10))
  | 0 => fun _ _ _ _ _ _ _ _ _ _ _ r h => by simp [carrefourref12_Allowed.l0] at h
  | k + 1 => by
    have ih0 := carrefourref12_Allowed.mono_l k
    · intro y0 y1 y2 y3 y4 y5 y6 y7 y8 y9 y10
      unfold carrefourref12_Allowed.l0
      repeat' first
      | (with_reducible exact ih0 _ _ _ _ _ _ _ _ _ _ _)
      | (with_reducible exact LeO.refl _)
      | (with_reducible exact LeO.none _)
      | (with_reducible refine LeO.ite ?_ ?_)
      | (with_reducible refine LeO.bind ?_ (fun _ => ?_))
      | exact ih0 _ _ _ _ _ _ _ _ _ _ _
      | exact LeO.none _
      | refine LeO.ite ?_ ?_
      | refine LeO.bind ?_ (fun _ => ?_)
theorem carrefourref12_Allowed.mono : ∀ a0 a1 a2 a3 a4 a5 a6 a7 a8 a9 k, LeO (carrefourref12_Allowed.f k a0 a1 a2 a3 a4 a5 a6 a7 a8 a9) (carrefourref12_Allowed.f (k + 1) a0 a1 a2 a3 a4 a5 a6 a7 a8 a9) := by
  intro a0 a1 a2 a3 a4 a5 a6 a7 a8 a9 k
  have ih0 := carrefourref12_Allowed.mono_l k
  unfold carrefourref12_Allowed.f
  repeat' first
      | (with_reducible exact ih0 _ _ _ _ _ _ _ _ _ _ _)
      | (with_reducible exact LeO.refl _)
      | (with_reducible exact LeO.none _)
      | (with_reducible refine LeO.ite ?_ ?_)
      | (with_reducible refine LeO.bind ?_ (fun _ => ?_))
      | exact ih0 _ _ _ _ _ _ _ _ _ _ _
      | exact LeO.none _
      | refine LeO.ite ?_ ?_
      | refine LeO.bind ?_ (fun _ => ?_)
set_option maxHeartbeats 8000000 in
set_option maxRecDepth 100000 in
theorem carrefourref12_Allowed.calls (k : Nat) (a0_0 : Int) (a0_1 : Int) (a0_2 : Int) (a0_3 : Int) (a0_4 : Int) (A0_5 : Option Addr) (c0_5 : Nat) (l0_5 : List (S55)) (A0_6 : Option Addr) (c0_6 : Nat) (l0_6 : List (S120)) (a0_7 : Int) (a0_8 : Int) (a1 : Int) (r1 : Int) (r2 : Bool) (w : World) (hr0_5 : Kd.C k55 w A0_5 l0_5.length l0_5) (hc0_5 : l0_5.length ≤ c0_5) (hr0_6 : Kd.C k120 w A0_6 l0_6.length l0_6) (hc0_6 : l0_6.length ≤ c0_6) (h : carrefourref12_Allowed.f k a0_0 a0_1 a0_2 a0_3 a0_4 l0_5 l0_6 a0_7 a0_8 a1 = some (r1, r2)) :
    Calls Tryd.prog 14 #[.agg #[.int .i64 a0_0, .int .i64 a0_1, .int .i64 a0_2, .int .i64 a0_3, .int .i64 a0_4, .slice A0_5 l0_5.length c0_5, .slice A0_6 l0_6.length c0_6, .int .i64 a0_7, .int .i64 a0_8], .int .i64 a1] w fun e w' => e = .returned (.tuple #[.int .i64 r1, .bool r2]) ∧ Below w.heap.size w w' := by
  have hu32 := Tryd.underlying32
  have HR0_5 := Aside0.mk hr0_5
  have HC0_5 := Aside0.mk hc0_5
  clear hr0_5 hc0_5
  have HR0_6 := Aside0.mk hr0_6
  have HC0_6 := Aside0.mk hc0_6
  clear hr0_6 hc0_6
  have HB := Aside0.mk (Below.refl w.heap.size w)
  have H : ((carrefourref12_Cycles.f a0_0 a0_1 a0_2 a0_3 a0_4 l0_5 l0_6 a0_7 a0_8).bind fun t278 => (if t278 = true then (carrefourref12_Allowed.l0 k a1 a0_0 a0_0 a0_1 a0_2 a0_3 a0_4 l0_5 l0_6 a0_7 a0_8) else (some (0, false)))) = some (r1, r2) := h
  clear h
  replace H := Option.bind_eq_some_iff.mp H
  obtain ⟨t278, A30, H⟩ := H
  replace H : (if t278 = true then (carrefourref12_Allowed.l0 k a1 a0_0 a0_0 a0_1 a0_2 a0_3 a0_4 l0_5 l0_6 a0_7 a0_8) else (some (0, false))) = some (r1, r2) := H
  have A3 := Aside0.mk A30
  clear A30
  by_cases c4 : t278 = true
  · subst c4
    have H1 : (carrefourref12_Allowed.l0 k a1 a0_0 a0_0 a0_1 a0_2 a0_3 a0_4 l0_5 l0_6 a0_7 a0_8) = some (r1, r2) := by rw [if_pos rfl] at H; exact H
    clear H
    have H := H1
    clear H1
    have H' := Aside0.mk H
    clear H
    go_enter Tryd.func14, Tryd.ntmps14
    go_wp2_with (first | ((with_reducible refine gate_dst (N := 2) rfl ?_); refine box_event ?hg (N := 2) ?hd (cs := #[.int .i64 a0_0, .int .i64 a0_1, .int .i64 a0_2, .int .i64 a0_3, .int .i64 a0_4, .slice A0_5 l0_5.length c0_5, .slice A0_6 l0_6.length c0_6, .int .i64 a0_7, .int .i64 a0_8]) (t := 32) ?hr ?_; (case hd => rfl); (case hg => rfl); (case hr => first | (go_simp; done) | (go_simp; rfl)); intro gb277 hg w5 hbox hb; have BK277 := Aside0.mk (hbox); have GW277 := bz HB hg; have GE277 := bz HB hg; replace HB := bs HB hb; clear hb hbox hg; have hcz6_0 := bc (v := .int .i64 a0_0) BK277 0 rfl; have hcz6_1 := bc (v := .int .i64 a0_1) BK277 1 rfl; have hcz6_2 := bc (v := .int .i64 a0_2) BK277 2 rfl; have hcz6_3 := bc (v := .int .i64 a0_3) BK277 3 rfl; have hcz6_4 := bc (v := .int .i64 a0_4) BK277 4 rfl; have hcz6_5 := bc (v := .slice A0_5 l0_5.length c0_5) BK277 5 rfl; have hcz6_6 := bc (v := .slice A0_6 l0_6.length c0_6) BK277 6 rfl; have hcz6_7 := bc (v := .int .i64 a0_7) BK277 7 rfl; have hcz6_8 := bc (v := .int .i64 a0_8) BK277 8 rfl; have hfz6_0 := blk_frozen BK277.out 0; have hfz6_1 := blk_frozen BK277.out 1; have hfz6_2 := blk_frozen BK277.out 2; have hfz6_3 := blk_frozen BK277.out 3; have hfz6_4 := blk_frozen BK277.out 4; have hfz6_5 := blk_frozen BK277.out 5; have hfz6_6 := blk_frozen BK277.out 6; have hfz6_7 := blk_frozen BK277.out 7; have hfz6_8 := blk_frozen BK277.out 8) | ((with_reducible refine gate_callee (f := 20) rfl ?_); refine goesL_ (some 8) rfl rfl Tryd.func20 (by kernel_rfl) rfl #[.agg #[.int .i64 a0_0, .int .i64 a0_1, .int .i64 a0_2, .int .i64 a0_3, .int .i64 a0_4, .slice A0_5 l0_5.length c0_5, .slice A0_6 l0_6.length c0_6, .int .i64 a0_7, .int .i64 a0_8]] rfl (by (try simp only [List.map_toArray, List.map_cons, List.map_nil]); first | done | rfl | (simp only [List.length_drop, List.length_take]; rfl)) ?_; (with_reducible refine (carrefourref12_Cycles.calls a0_0 a0_1 a0_2 a0_3 a0_4 _ _ l0_5 _ _ l0_6 a0_7 a0_8 true _ ?side1 ?side2 ?side3 ?side4 A3.out).mono ?_); (case side1 => repeat (first | exact (Kd.C_below HR0_5.out HB.out) | (with_reducible refine Kd.C_alloc ?_ _) | (with_reducible refine Kd.C_drewN ?_ _) | (with_reducible refine Kd.C_drew ?_))); (case side2 => exact HC0_5.out); (case side3 => repeat (first | exact (Kd.C_below HR0_6.out HB.out) | (with_reducible refine Kd.C_alloc ?_ _) | (with_reducible refine Kd.C_drewN ?_ _) | (with_reducible refine Kd.C_drew ?_))); (case side4 => exact HC0_6.out); rintro e w7 ⟨rfl, hb⟩; refine ⟨_, rfl, ?_⟩; replace BK277 := bb BK277 hb; replace HB := bs HB hb; (try clear hb); (try clear hb2); (try clear hk); (try clear hi); have hcz8_0 := bc (v := .int .i64 a0_0) BK277 0 rfl; have hcz8_1 := bc (v := .int .i64 a0_1) BK277 1 rfl; have hcz8_2 := bc (v := .int .i64 a0_2) BK277 2 rfl; have hcz8_3 := bc (v := .int .i64 a0_3) BK277 3 rfl; have hcz8_4 := bc (v := .int .i64 a0_4) BK277 4 rfl; have hcz8_5 := bc (v := .slice A0_5 l0_5.length c0_5) BK277 5 rfl; have hcz8_6 := bc (v := .slice A0_6 l0_6.length c0_6) BK277 6 rfl; have hcz8_7 := bc (v := .int .i64 a0_7) BK277 7 rfl; have hcz8_8 := bc (v := .int .i64 a0_8) BK277 8 rfl; have hfz8_0 := blk_frozen BK277.out 0; have hfz8_1 := blk_frozen BK277.out 1; have hfz8_2 := blk_frozen BK277.out 2; have hfz8_3 := blk_frozen BK277.out 3; have hfz8_4 := blk_frozen BK277.out 4; have hfz8_5 := blk_frozen BK277.out 5; have hfz8_6 := blk_frozen BK277.out 6; have hfz8_7 := blk_frozen BK277.out 7; have hfz8_8 := blk_frozen BK277.out 8))
    go_loopg [6] k (fun kq v6 w' => ∃ (x6_1 : Int), v6 = .int .i64 x6_1 ∧ Aside0 (carrefourref12_Allowed.l0 kq a1 x6_1 a0_0 a0_1 a0_2 a0_3 a0_4 l0_5 l0_6 a0_7 a0_8 = some (r1, r2)) ∧ Aside0 (kq ≤ k) ∧ Aside0 (w'.heap[gb277]? = some (.cells #[.int .i64 a0_0, .int .i64 a0_1, .int .i64 a0_2, .int .i64 a0_3, .int .i64 a0_4, (.slice A0_5 l0_5.length c0_5), (.slice A0_6 l0_6.length c0_6), .int .i64 a0_7, .int .i64 a0_8] 32 (0, 0))) ∧ Aside0 (Below w.heap.size w w'))
    case atStart => exact ⟨(a0_0), (by first | rfl | (simp; done) | (simp [*]; done)), H', ⟨Nat.le_refl _⟩, ⟨by (with_reducible repeat (first | refine blk_drewN ?_ _ | refine blk_drew ?_ | refine blk_alloc ?_ _)); exact BK277.out⟩, ⟨by repeat (first | (with_reducible first | exact HB.out | apply below_alloc | apply pw_below_drewN | apply below_drew1 | refine below_set ?_ GE277.out) | exact HB.out)⟩⟩
    case round =>
      clear H'
      try clear c1
      try clear c2
      try clear p2
      try clear c4
      try clear hcz6_0
      try clear hcz6_1
      try clear hcz6_2
      try clear hcz6_3
      try clear hcz6_4
      try clear hcz6_5
      try clear hcz6_6
      try clear hcz6_7
      try clear hcz6_8
      try clear hcz8_0
      try clear hcz8_1
      try clear hcz8_2
      try clear hcz8_3
      try clear hcz8_4
      try clear hcz8_5
      try clear hcz8_6
      try clear hcz8_7
      try clear hcz8_8
      try clear hfz6_0
      try clear hfz6_1
      try clear hfz6_2
      try clear hfz6_3
      try clear hfz6_4
      try clear hfz6_5
      try clear hfz6_6
      try clear hfz6_7
      try clear hfz6_8
      try clear hfz8_0
      try clear hfz8_1
      try clear hfz8_2
      try clear hfz8_3
      try clear hfz8_4
      try clear hfz8_5
      try clear hfz8_6
      try clear hfz8_7
      try clear hfz8_8
      obtain ⟨x6_1, rfl, HA, HK1, BK277, HB⟩ := hrel
      cases gk with
      | zero => exact absurd HA.out (by simp [carrefourref12_Allowed.l0])
      | succ k1 =>
        have H := HA.out
        clear HA
        simp only [carrefourref12_Allowed.l0] at H
        by_cases c9 : x6_1 < a1
        · rw [if_pos c9] at H
          have c9b0 : decide (x6_1 < a1) = true := decide_eq_true c9
          clear c9
          by_cases c10 : a0_2 ≤ (wrap64 (a0_1 - x6_1))
          · rw [if_pos c10] at H
            have c10b0 : decide (a0_2 ≤ (wrap64 (a0_1 - x6_1))) = true := decide_eq_true c10
            clear c10
            have H' := Aside0.mk H
            clear H
            have hcz11_0 := bc (v := .int .i64 a0_0) BK277 0 rfl
            have hcz11_1 := bc (v := .int .i64 a0_1) BK277 1 rfl
            have hcz11_2 := bc (v := .int .i64 a0_2) BK277 2 rfl
            have hcz11_3 := bc (v := .int .i64 a0_3) BK277 3 rfl
            have hcz11_4 := bc (v := .int .i64 a0_4) BK277 4 rfl
            have hcz11_5 := bc (v := .slice A0_5 l0_5.length c0_5) BK277 5 rfl
            have hcz11_6 := bc (v := .slice A0_6 l0_6.length c0_6) BK277 6 rfl
            have hcz11_7 := bc (v := .int .i64 a0_7) BK277 7 rfl
            have hcz11_8 := bc (v := .int .i64 a0_8) BK277 8 rfl
            have hfz11_0 := blk_frozen BK277.out 0
            have hfz11_1 := blk_frozen BK277.out 1
            have hfz11_2 := blk_frozen BK277.out 2
            have hfz11_3 := blk_frozen BK277.out 3
            have hfz11_4 := blk_frozen BK277.out 4
            have hfz11_5 := blk_frozen BK277.out 5
            have hfz11_6 := blk_frozen BK277.out 6
            have hfz11_7 := blk_frozen BK277.out 7
            have hfz11_8 := blk_frozen BK277.out 8
            go_wp2
            go_roundg k1
            case measure => have := HK1.out; omega
            case rel => exact ⟨(wrap64 (x6_1 + a0_2)), (by first | rfl | (simp; done) | (simp [*]; done)), H', ⟨by have := HK1.out; omega⟩, ⟨by (with_reducible repeat (first | refine blk_drewN ?_ _ | refine blk_drew ?_ | refine blk_alloc ?_ _)); exact BK277.out⟩, ⟨by repeat (first | (with_reducible first | exact HB.out | apply below_alloc | apply pw_below_drewN | apply below_drew1 | refine below_set ?_ GE277.out) | exact HB.out)⟩⟩
          · rw [if_neg c10] at H
            have c10b0 : decide (a0_2 ≤ (wrap64 (a0_1 - x6_1))) = false := decide_eq_false c10
            clear c10
            simp only [Option.some.injEq, Prod.mk.injEq] at H
            obtain ⟨rfl, rfl⟩ := H
            have hcz12_0 := bc (v := .int .i64 a0_0) BK277 0 rfl
            have hcz12_1 := bc (v := .int .i64 a0_1) BK277 1 rfl
            have hcz12_2 := bc (v := .int .i64 a0_2) BK277 2 rfl
            have hcz12_3 := bc (v := .int .i64 a0_3) BK277 3 rfl
            have hcz12_4 := bc (v := .int .i64 a0_4) BK277 4 rfl
            have hcz12_5 := bc (v := .slice A0_5 l0_5.length c0_5) BK277 5 rfl
            have hcz12_6 := bc (v := .slice A0_6 l0_6.length c0_6) BK277 6 rfl
            have hcz12_7 := bc (v := .int .i64 a0_7) BK277 7 rfl
            have hcz12_8 := bc (v := .int .i64 a0_8) BK277 8 rfl
            have hfz12_0 := blk_frozen BK277.out 0
            have hfz12_1 := blk_frozen BK277.out 1
            have hfz12_2 := blk_frozen BK277.out 2
            have hfz12_3 := blk_frozen BK277.out 3
            have hfz12_4 := blk_frozen BK277.out 4
            have hfz12_5 := blk_frozen BK277.out 5
            have hfz12_6 := blk_frozen BK277.out 6
            have hfz12_7 := blk_frozen BK277.out 7
            have hfz12_8 := blk_frozen BK277.out 8
            go_wp2
            go_ret2
            exact ⟨by first | rfl | (simp [errW_none, errW_some] <;> rfl) | (simp [*, errW_none, errW_some] <;> rfl), by repeat (first | (with_reducible first | exact HB.out | apply below_alloc | apply pw_below_drewN | apply below_drew1 | refine below_set ?_ GE277.out) | exact HB.out)⟩
        · rw [if_neg c9] at H
          have c9b0 : decide (x6_1 < a1) = false := decide_eq_false c9
          clear c9
          simp only [Option.some.injEq, Prod.mk.injEq] at H
          obtain ⟨rfl, rfl⟩ := H
          go_wp2
          go_ret2
          exact ⟨by first | rfl | (simp [errW_none, errW_some] <;> rfl) | (simp [*, errW_none, errW_some] <;> rfl), by repeat (first | (with_reducible first | exact HB.out | apply below_alloc | apply pw_below_drewN | apply below_drew1 | refine below_set ?_ GE277.out) | exact HB.out)⟩
  · replace c4 := Bool.eq_false_iff.mpr c4
    subst c4
    have H1 : (some (0, false)) = some (r1, r2) := by rw [if_neg (show ¬ (false = true) by decide)] at H; exact H
    clear H
    have H := H1
    clear H1
    simp only [Option.some.injEq, Prod.mk.injEq] at H
    obtain ⟨rfl, rfl⟩ := H
    go_enter Tryd.func14, Tryd.ntmps14
    go_wp2_with (first | ((with_reducible refine gate_dst (N := 2) rfl ?_); refine box_event ?hg (N := 2) ?hd (cs := #[.int .i64 a0_0, .int .i64 a0_1, .int .i64 a0_2, .int .i64 a0_3, .int .i64 a0_4, .slice A0_5 l0_5.length c0_5, .slice A0_6 l0_6.length c0_6, .int .i64 a0_7, .int .i64 a0_8]) (t := 32) ?hr ?_; (case hd => rfl); (case hg => rfl); (case hr => first | (go_simp; done) | (go_simp; rfl)); intro gb277 hg w13 hbox hb; have BK277 := Aside0.mk (hbox); have GW277 := bz HB hg; have GE277 := bz HB hg; replace HB := bs HB hb; clear hb hbox hg; have hcz14_0 := bc (v := .int .i64 a0_0) BK277 0 rfl; have hcz14_1 := bc (v := .int .i64 a0_1) BK277 1 rfl; have hcz14_2 := bc (v := .int .i64 a0_2) BK277 2 rfl; have hcz14_3 := bc (v := .int .i64 a0_3) BK277 3 rfl; have hcz14_4 := bc (v := .int .i64 a0_4) BK277 4 rfl; have hcz14_5 := bc (v := .slice A0_5 l0_5.length c0_5) BK277 5 rfl; have hcz14_6 := bc (v := .slice A0_6 l0_6.length c0_6) BK277 6 rfl; have hcz14_7 := bc (v := .int .i64 a0_7) BK277 7 rfl; have hcz14_8 := bc (v := .int .i64 a0_8) BK277 8 rfl; have hfz14_0 := blk_frozen BK277.out 0; have hfz14_1 := blk_frozen BK277.out 1; have hfz14_2 := blk_frozen BK277.out 2; have hfz14_3 := blk_frozen BK277.out 3; have hfz14_4 := blk_frozen BK277.out 4; have hfz14_5 := blk_frozen BK277.out 5; have hfz14_6 := blk_frozen BK277.out 6; have hfz14_7 := blk_frozen BK277.out 7; have hfz14_8 := blk_frozen BK277.out 8) | ((with_reducible refine gate_callee (f := 20) rfl ?_); refine goesL_ (some 8) rfl rfl Tryd.func20 (by kernel_rfl) rfl #[.agg #[.int .i64 a0_0, .int .i64 a0_1, .int .i64 a0_2, .int .i64 a0_3, .int .i64 a0_4, .slice A0_5 l0_5.length c0_5, .slice A0_6 l0_6.length c0_6, .int .i64 a0_7, .int .i64 a0_8]] rfl (by (try simp only [List.map_toArray, List.map_cons, List.map_nil]); first | done | rfl | (simp only [List.length_drop, List.length_take]; rfl)) ?_; (with_reducible refine (carrefourref12_Cycles.calls a0_0 a0_1 a0_2 a0_3 a0_4 _ _ l0_5 _ _ l0_6 a0_7 a0_8 false _ ?side1 ?side2 ?side3 ?side4 A3.out).mono ?_); (case side1 => repeat (first | exact (Kd.C_below HR0_5.out HB.out) | (with_reducible refine Kd.C_alloc ?_ _) | (with_reducible refine Kd.C_drewN ?_ _) | (with_reducible refine Kd.C_drew ?_))); (case side2 => exact HC0_5.out); (case side3 => repeat (first | exact (Kd.C_below HR0_6.out HB.out) | (with_reducible refine Kd.C_alloc ?_ _) | (with_reducible refine Kd.C_drewN ?_ _) | (with_reducible refine Kd.C_drew ?_))); (case side4 => exact HC0_6.out); rintro e w15 ⟨rfl, hb⟩; refine ⟨_, rfl, ?_⟩; replace BK277 := bb BK277 hb; replace HB := bs HB hb; (try clear hb); (try clear hb2); (try clear hk); (try clear hi)))
    go_ret2
    exact ⟨by first | rfl | (simp [errW_none, errW_some] <;> rfl) | (simp [*, errW_none, errW_some] <;> rfl), by repeat (first | (with_reducible first | exact HB.out | apply below_alloc | apply pw_below_drewN | apply below_drew1 | refine below_set ?_ GE277.out) | exact HB.out)⟩

/-! ### carrefourref12_Count: function 16 -/
def carrefourref12_Count.l0 : Nat → Int → Int → Int → Int → Int → Int → Int → List (S55) → List (S120) → Int → Int → Option (Int)
  | 0, _, _, _, _, _, _, _, _, _, _, _ => none
  | k + 1, x3, x4, x280000, x280001, x280002, x280003, x280004, x280005, x280006, x280007, x280008 => if x280002 ≤ (wrap64 (x280001 - x4)) then (carrefourref12_Count.l0 k (wrap64 (x3 + 1)) (wrap64 (x4 + x280002)) x280000 x280001 x280002 x280003 x280004 x280005 x280006 x280007 x280008) else (some x3)
def carrefourref12_Count.f (k : Nat) (a0_0 : Int) (a0_1 : Int) (a0_2 : Int) (a0_3 : Int) (a0_4 : Int) (l0_5 : List (S55)) (l0_6 : List (S120)) (a0_7 : Int) (a0_8 : Int) : Option (Int) := (carrefourref12_Cycles.f a0_0 a0_1 a0_2 a0_3 a0_4 l0_5 l0_6 a0_7 a0_8).bind fun t280 => (if t280 = true then (carrefourref12_Count.l0 k 1 a0_0 a0_0 a0_1 a0_2 a0_3 a0_4 l0_5 l0_6 a0_7 a0_8) else (some 0))
theorem carrefourref12_Count.mono_l : ∀ k, (∀ y0 y1 y2 y3 y4 y5 y6 y7 y8 y9 y10, LeO (carrefourref12_Count.l0 k y0 y1 y2 y3 y4 y5 y6 y7 y8 y9 y10) (carrefourref12_Count.l0 (k + 1) y0 y1 y2 y3 y4 y5 y6 y7 y8 y9 y10))
  | 0 => fun _ _ _ _ _ _ _ _ _ _ _ r h => by simp [carrefourref12_Count.l0] at h
  | k + 1 => by
    have ih0 := carrefourref12_Count.mono_l k
    · intro y0 y1 y2 y3 y4 y5 y6 y7 y8 y9 y10
      unfold carrefourref12_Count.l0
      repeat' first
      | (with_reducible exact ih0 _ _ _ _ _ _ _ _ _ _ _)
      | (with_reducible exact LeO.refl _)
      | (with_reducible exact LeO.none _)
      | (with_reducible refine LeO.ite ?_ ?_)
      | (with_reducible refine LeO.bind ?_ (fun _ => ?_))
      | exact ih0 _ _ _ _ _ _ _ _ _ _ _
      | exact LeO.none _
      | refine LeO.ite ?_ ?_
      | refine LeO.bind ?_ (fun _ => ?_)
theorem carrefourref12_Count.mono : ∀ a0 a1 a2 a3 a4 a5 a6 a7 a8 k, LeO (carrefourref12_Count.f k a0 a1 a2 a3 a4 a5 a6 a7 a8) (carrefourref12_Count.f (k + 1) a0 a1 a2 a3 a4 a5 a6 a7 a8) := by
  intro a0 a1 a2 a3 a4 a5 a6 a7 a8 k
  have ih0 := carrefourref12_Count.mono_l k
  unfold carrefourref12_Count.f
  repeat' first
      | (with_reducible exact ih0 _ _ _ _ _ _ _ _ _ _ _)
      | (with_reducible exact LeO.refl _)
      | (with_reducible exact LeO.none _)
      | (with_reducible refine LeO.ite ?_ ?_)
      | (with_reducible refine LeO.bind ?_ (fun _ => ?_))
      | exact ih0 _ _ _ _ _ _ _ _ _ _ _
      | exact LeO.none _
      | refine LeO.ite ?_ ?_
      | refine LeO.bind ?_ (fun _ => ?_)
set_option maxHeartbeats 8000000 in
set_option maxRecDepth 100000 in
theorem carrefourref12_Count.calls (k : Nat) (a0_0 : Int) (a0_1 : Int) (a0_2 : Int) (a0_3 : Int) (a0_4 : Int) (A0_5 : Option Addr) (c0_5 : Nat) (l0_5 : List (S55)) (A0_6 : Option Addr) (c0_6 : Nat) (l0_6 : List (S120)) (a0_7 : Int) (a0_8 : Int) (r : Int) (w : World) (hr0_5 : Kd.C k55 w A0_5 l0_5.length l0_5) (hc0_5 : l0_5.length ≤ c0_5) (hr0_6 : Kd.C k120 w A0_6 l0_6.length l0_6) (hc0_6 : l0_6.length ≤ c0_6) (h : carrefourref12_Count.f k a0_0 a0_1 a0_2 a0_3 a0_4 l0_5 l0_6 a0_7 a0_8 = some r) :
    Calls Tryd.prog 16 #[.agg #[.int .i64 a0_0, .int .i64 a0_1, .int .i64 a0_2, .int .i64 a0_3, .int .i64 a0_4, .slice A0_5 l0_5.length c0_5, .slice A0_6 l0_6.length c0_6, .int .i64 a0_7, .int .i64 a0_8]] w fun e w' => e = .returned (.int .i64 r) ∧ Below w.heap.size w w' := by
  have hu32 := Tryd.underlying32
  have HR0_5 := Aside0.mk hr0_5
  have HC0_5 := Aside0.mk hc0_5
  clear hr0_5 hc0_5
  have HR0_6 := Aside0.mk hr0_6
  have HC0_6 := Aside0.mk hc0_6
  clear hr0_6 hc0_6
  have HB := Aside0.mk (Below.refl w.heap.size w)
  have H : ((carrefourref12_Cycles.f a0_0 a0_1 a0_2 a0_3 a0_4 l0_5 l0_6 a0_7 a0_8).bind fun t280 => (if t280 = true then (carrefourref12_Count.l0 k 1 a0_0 a0_0 a0_1 a0_2 a0_3 a0_4 l0_5 l0_6 a0_7 a0_8) else (some 0))) = some r := h
  clear h
  replace H := Option.bind_eq_some_iff.mp H
  obtain ⟨t280, A20, H⟩ := H
  replace H : (if t280 = true then (carrefourref12_Count.l0 k 1 a0_0 a0_0 a0_1 a0_2 a0_3 a0_4 l0_5 l0_6 a0_7 a0_8) else (some 0)) = some r := H
  have A2 := Aside0.mk A20
  clear A20
  by_cases c3 : t280 = true
  · subst c3
    have H1 : (carrefourref12_Count.l0 k 1 a0_0 a0_0 a0_1 a0_2 a0_3 a0_4 l0_5 l0_6 a0_7 a0_8) = some r := by rw [if_pos rfl] at H; exact H
    clear H
    have H := H1
    clear H1
    have H' := Aside0.mk H
    clear H
    go_enter Tryd.func16, Tryd.ntmps16
    go_wp2_with (first | ((with_reducible refine gate_dst (N := 1) rfl ?_); refine box_event ?hg (N := 1) ?hd (cs := #[.int .i64 a0_0, .int .i64 a0_1, .int .i64 a0_2, .int .i64 a0_3, .int .i64 a0_4, .slice A0_5 l0_5.length c0_5, .slice A0_6 l0_6.length c0_6, .int .i64 a0_7, .int .i64 a0_8]) (t := 32) ?hr ?_; (case hd => rfl); (case hg => rfl); (case hr => first | (go_simp; done) | (go_simp; rfl)); intro gb279 hg w4 hbox hb; have BK279 := Aside0.mk (hbox); have GW279 := bz HB hg; have GE279 := bz HB hg; replace HB := bs HB hb; clear hb hbox hg; have hcz5_0 := bc (v := .int .i64 a0_0) BK279 0 rfl; have hcz5_1 := bc (v := .int .i64 a0_1) BK279 1 rfl; have hcz5_2 := bc (v := .int .i64 a0_2) BK279 2 rfl; have hcz5_3 := bc (v := .int .i64 a0_3) BK279 3 rfl; have hcz5_4 := bc (v := .int .i64 a0_4) BK279 4 rfl; have hcz5_5 := bc (v := .slice A0_5 l0_5.length c0_5) BK279 5 rfl; have hcz5_6 := bc (v := .slice A0_6 l0_6.length c0_6) BK279 6 rfl; have hcz5_7 := bc (v := .int .i64 a0_7) BK279 7 rfl; have hcz5_8 := bc (v := .int .i64 a0_8) BK279 8 rfl; have hfz5_0 := blk_frozen BK279.out 0; have hfz5_1 := blk_frozen BK279.out 1; have hfz5_2 := blk_frozen BK279.out 2; have hfz5_3 := blk_frozen BK279.out 3; have hfz5_4 := blk_frozen BK279.out 4; have hfz5_5 := blk_frozen BK279.out 5; have hfz5_6 := blk_frozen BK279.out 6; have hfz5_7 := blk_frozen BK279.out 7; have hfz5_8 := blk_frozen BK279.out 8) | ((with_reducible refine gate_callee (f := 20) rfl ?_); refine goesL_ (some 6) rfl rfl Tryd.func20 (by kernel_rfl) rfl #[.agg #[.int .i64 a0_0, .int .i64 a0_1, .int .i64 a0_2, .int .i64 a0_3, .int .i64 a0_4, .slice A0_5 l0_5.length c0_5, .slice A0_6 l0_6.length c0_6, .int .i64 a0_7, .int .i64 a0_8]] rfl (by (try simp only [List.map_toArray, List.map_cons, List.map_nil]); first | done | rfl | (simp only [List.length_drop, List.length_take]; rfl)) ?_; (with_reducible refine (carrefourref12_Cycles.calls a0_0 a0_1 a0_2 a0_3 a0_4 _ _ l0_5 _ _ l0_6 a0_7 a0_8 true _ ?side1 ?side2 ?side3 ?side4 A2.out).mono ?_); (case side1 => repeat (first | exact (Kd.C_below HR0_5.out HB.out) | (with_reducible refine Kd.C_alloc ?_ _) | (with_reducible refine Kd.C_drewN ?_ _) | (with_reducible refine Kd.C_drew ?_))); (case side2 => exact HC0_5.out); (case side3 => repeat (first | exact (Kd.C_below HR0_6.out HB.out) | (with_reducible refine Kd.C_alloc ?_ _) | (with_reducible refine Kd.C_drewN ?_ _) | (with_reducible refine Kd.C_drew ?_))); (case side4 => exact HC0_6.out); rintro e w6 ⟨rfl, hb⟩; refine ⟨_, rfl, ?_⟩; replace BK279 := bb BK279 hb; replace HB := bs HB hb; (try clear hb); (try clear hb2); (try clear hk); (try clear hi); have hcz7_0 := bc (v := .int .i64 a0_0) BK279 0 rfl; have hcz7_1 := bc (v := .int .i64 a0_1) BK279 1 rfl; have hcz7_2 := bc (v := .int .i64 a0_2) BK279 2 rfl; have hcz7_3 := bc (v := .int .i64 a0_3) BK279 3 rfl; have hcz7_4 := bc (v := .int .i64 a0_4) BK279 4 rfl; have hcz7_5 := bc (v := .slice A0_5 l0_5.length c0_5) BK279 5 rfl; have hcz7_6 := bc (v := .slice A0_6 l0_6.length c0_6) BK279 6 rfl; have hcz7_7 := bc (v := .int .i64 a0_7) BK279 7 rfl; have hcz7_8 := bc (v := .int .i64 a0_8) BK279 8 rfl; have hfz7_0 := blk_frozen BK279.out 0; have hfz7_1 := blk_frozen BK279.out 1; have hfz7_2 := blk_frozen BK279.out 2; have hfz7_3 := blk_frozen BK279.out 3; have hfz7_4 := blk_frozen BK279.out 4; have hfz7_5 := blk_frozen BK279.out 5; have hfz7_6 := blk_frozen BK279.out 6; have hfz7_7 := blk_frozen BK279.out 7; have hfz7_8 := blk_frozen BK279.out 8))
    go_loopg [3, 4] k (fun kq v3 v4 w' => ∃ (x3_1 : Int) (x4_1 : Int), v3 = .int .i64 x3_1 ∧ v4 = .int .i64 x4_1 ∧ Aside0 (carrefourref12_Count.l0 kq x3_1 x4_1 a0_0 a0_1 a0_2 a0_3 a0_4 l0_5 l0_6 a0_7 a0_8 = some r) ∧ Aside0 (kq ≤ k) ∧ Aside0 (w'.heap[gb279]? = some (.cells #[.int .i64 a0_0, .int .i64 a0_1, .int .i64 a0_2, .int .i64 a0_3, .int .i64 a0_4, (.slice A0_5 l0_5.length c0_5), (.slice A0_6 l0_6.length c0_6), .int .i64 a0_7, .int .i64 a0_8] 32 (0, 0))) ∧ Aside0 (Below w.heap.size w w'))
    case atStart => exact ⟨(1), (a0_0), (by first | rfl | (simp; done) | (simp [*]; done)), (by first | rfl | (simp; done) | (simp [*]; done)), H', ⟨Nat.le_refl _⟩, ⟨by (with_reducible repeat (first | refine blk_drewN ?_ _ | refine blk_drew ?_ | refine blk_alloc ?_ _)); exact BK279.out⟩, ⟨by repeat (first | (with_reducible first | exact HB.out | apply below_alloc | apply pw_below_drewN | apply below_drew1 | refine below_set ?_ GE279.out) | exact HB.out)⟩⟩
    case round =>
      clear H'
      try clear c1
      try clear c2
      try clear p2
      try clear c3
      try clear hcz5_0
      try clear hcz5_1
      try clear hcz5_2
      try clear hcz5_3
      try clear hcz5_4
      try clear hcz5_5
      try clear hcz5_6
      try clear hcz5_7
      try clear hcz5_8
      try clear hcz7_0
      try clear hcz7_1
      try clear hcz7_2
      try clear hcz7_3
      try clear hcz7_4
      try clear hcz7_5
      try clear hcz7_6
      try clear hcz7_7
      try clear hcz7_8
      try clear hfz5_0
      try clear hfz5_1
      try clear hfz5_2
      try clear hfz5_3
      try clear hfz5_4
      try clear hfz5_5
      try clear hfz5_6
      try clear hfz5_7
      try clear hfz5_8
      try clear hfz7_0
      try clear hfz7_1
      try clear hfz7_2
      try clear hfz7_3
      try clear hfz7_4
      try clear hfz7_5
      try clear hfz7_6
      try clear hfz7_7
      try clear hfz7_8
      obtain ⟨x3_1, x4_1, rfl, rfl, HA, HK1, BK279, HB⟩ := hrel
      cases gk with
      | zero => exact absurd HA.out (by simp [carrefourref12_Count.l0])
      | succ k1 =>
        have H := HA.out
        clear HA
        simp only [carrefourref12_Count.l0] at H
        by_cases c8 : a0_2 ≤ (wrap64 (a0_1 - x4_1))
        · rw [if_pos c8] at H
          have c8b0 : decide (a0_2 ≤ (wrap64 (a0_1 - x4_1))) = true := decide_eq_true c8
          clear c8
          have H' := Aside0.mk H
          clear H
          have hcz9_0 := bc (v := .int .i64 a0_0) BK279 0 rfl
          have hcz9_1 := bc (v := .int .i64 a0_1) BK279 1 rfl
          have hcz9_2 := bc (v := .int .i64 a0_2) BK279 2 rfl
          have hcz9_3 := bc (v := .int .i64 a0_3) BK279 3 rfl
          have hcz9_4 := bc (v := .int .i64 a0_4) BK279 4 rfl
          have hcz9_5 := bc (v := .slice A0_5 l0_5.length c0_5) BK279 5 rfl
          have hcz9_6 := bc (v := .slice A0_6 l0_6.length c0_6) BK279 6 rfl
          have hcz9_7 := bc (v := .int .i64 a0_7) BK279 7 rfl
          have hcz9_8 := bc (v := .int .i64 a0_8) BK279 8 rfl
          have hfz9_0 := blk_frozen BK279.out 0
          have hfz9_1 := blk_frozen BK279.out 1
          have hfz9_2 := blk_frozen BK279.out 2
          have hfz9_3 := blk_frozen BK279.out 3
          have hfz9_4 := blk_frozen BK279.out 4
          have hfz9_5 := blk_frozen BK279.out 5
          have hfz9_6 := blk_frozen BK279.out 6
          have hfz9_7 := blk_frozen BK279.out 7
          have hfz9_8 := blk_frozen BK279.out 8
          go_wp2
          go_roundg k1
          case measure => have := HK1.out; omega
          case rel => exact ⟨(wrap64 (x3_1 + 1)), (wrap64 (x4_1 + a0_2)), (by first | rfl | (simp; done) | (simp [*]; done)), (by first | rfl | (simp; done) | (simp [*]; done)), H', ⟨by have := HK1.out; omega⟩, ⟨by (with_reducible repeat (first | refine blk_drewN ?_ _ | refine blk_drew ?_ | refine blk_alloc ?_ _)); exact BK279.out⟩, ⟨by repeat (first | (with_reducible first | exact HB.out | apply below_alloc | apply pw_below_drewN | apply below_drew1 | refine below_set ?_ GE279.out) | exact HB.out)⟩⟩
        · rw [if_neg c8] at H
          have c8b0 : decide (a0_2 ≤ (wrap64 (a0_1 - x4_1))) = false := decide_eq_false c8
          clear c8
          obtain rfl := Option.some.inj H
          have hcz10_0 := bc (v := .int .i64 a0_0) BK279 0 rfl
          have hcz10_1 := bc (v := .int .i64 a0_1) BK279 1 rfl
          have hcz10_2 := bc (v := .int .i64 a0_2) BK279 2 rfl
          have hcz10_3 := bc (v := .int .i64 a0_3) BK279 3 rfl
          have hcz10_4 := bc (v := .int .i64 a0_4) BK279 4 rfl
          have hcz10_5 := bc (v := .slice A0_5 l0_5.length c0_5) BK279 5 rfl
          have hcz10_6 := bc (v := .slice A0_6 l0_6.length c0_6) BK279 6 rfl
          have hcz10_7 := bc (v := .int .i64 a0_7) BK279 7 rfl
          have hcz10_8 := bc (v := .int .i64 a0_8) BK279 8 rfl
          have hfz10_0 := blk_frozen BK279.out 0
          have hfz10_1 := blk_frozen BK279.out 1
          have hfz10_2 := blk_frozen BK279.out 2
          have hfz10_3 := blk_frozen BK279.out 3
          have hfz10_4 := blk_frozen BK279.out 4
          have hfz10_5 := blk_frozen BK279.out 5
          have hfz10_6 := blk_frozen BK279.out 6
          have hfz10_7 := blk_frozen BK279.out 7
          have hfz10_8 := blk_frozen BK279.out 8
          go_wp2
          go_ret
          exact ⟨by first | rfl | (simp [errW_none, errW_some] <;> rfl) | (simp [*, errW_none, errW_some] <;> rfl), by repeat (first | (with_reducible first | exact HB.out | apply below_alloc | apply pw_below_drewN | apply below_drew1 | refine below_set ?_ GE279.out) | exact HB.out)⟩
  · replace c3 := Bool.eq_false_iff.mpr c3
    subst c3
    have H1 : (some 0) = some r := by rw [if_neg (show ¬ (false = true) by decide)] at H; exact H
    clear H
    have H := H1
    clear H1
    obtain rfl := Option.some.inj H
    go_enter Tryd.func16, Tryd.ntmps16
    go_wp2_with (first | ((with_reducible refine gate_dst (N := 1) rfl ?_); refine box_event ?hg (N := 1) ?hd (cs := #[.int .i64 a0_0, .int .i64 a0_1, .int .i64 a0_2, .int .i64 a0_3, .int .i64 a0_4, .slice A0_5 l0_5.length c0_5, .slice A0_6 l0_6.length c0_6, .int .i64 a0_7, .int .i64 a0_8]) (t := 32) ?hr ?_; (case hd => rfl); (case hg => rfl); (case hr => first | (go_simp; done) | (go_simp; rfl)); intro gb279 hg w11 hbox hb; have BK279 := Aside0.mk (hbox); have GW279 := bz HB hg; have GE279 := bz HB hg; replace HB := bs HB hb; clear hb hbox hg; have hcz12_0 := bc (v := .int .i64 a0_0) BK279 0 rfl; have hcz12_1 := bc (v := .int .i64 a0_1) BK279 1 rfl; have hcz12_2 := bc (v := .int .i64 a0_2) BK279 2 rfl; have hcz12_3 := bc (v := .int .i64 a0_3) BK279 3 rfl; have hcz12_4 := bc (v := .int .i64 a0_4) BK279 4 rfl; have hcz12_5 := bc (v := .slice A0_5 l0_5.length c0_5) BK279 5 rfl; have hcz12_6 := bc (v := .slice A0_6 l0_6.length c0_6) BK279 6 rfl; have hcz12_7 := bc (v := .int .i64 a0_7) BK279 7 rfl; have hcz12_8 := bc (v := .int .i64 a0_8) BK279 8 rfl; have hfz12_0 := blk_frozen BK279.out 0; have hfz12_1 := blk_frozen BK279.out 1; have hfz12_2 := blk_frozen BK279.out 2; have hfz12_3 := blk_frozen BK279.out 3; have hfz12_4 := blk_frozen BK279.out 4; have hfz12_5 := blk_frozen BK279.out 5; have hfz12_6 := blk_frozen BK279.out 6; have hfz12_7 := blk_frozen BK279.out 7; have hfz12_8 := blk_frozen BK279.out 8) | ((with_reducible refine gate_callee (f := 20) rfl ?_); refine goesL_ (some 6) rfl rfl Tryd.func20 (by kernel_rfl) rfl #[.agg #[.int .i64 a0_0, .int .i64 a0_1, .int .i64 a0_2, .int .i64 a0_3, .int .i64 a0_4, .slice A0_5 l0_5.length c0_5, .slice A0_6 l0_6.length c0_6, .int .i64 a0_7, .int .i64 a0_8]] rfl (by (try simp only [List.map_toArray, List.map_cons, List.map_nil]); first | done | rfl | (simp only [List.length_drop, List.length_take]; rfl)) ?_; (with_reducible refine (carrefourref12_Cycles.calls a0_0 a0_1 a0_2 a0_3 a0_4 _ _ l0_5 _ _ l0_6 a0_7 a0_8 false _ ?side1 ?side2 ?side3 ?side4 A2.out).mono ?_); (case side1 => repeat (first | exact (Kd.C_below HR0_5.out HB.out) | (with_reducible refine Kd.C_alloc ?_ _) | (with_reducible refine Kd.C_drewN ?_ _) | (with_reducible refine Kd.C_drew ?_))); (case side2 => exact HC0_5.out); (case side3 => repeat (first | exact (Kd.C_below HR0_6.out HB.out) | (with_reducible refine Kd.C_alloc ?_ _) | (with_reducible refine Kd.C_drewN ?_ _) | (with_reducible refine Kd.C_drew ?_))); (case side4 => exact HC0_6.out); rintro e w13 ⟨rfl, hb⟩; refine ⟨_, rfl, ?_⟩; replace BK279 := bb BK279 hb; replace HB := bs HB hb; (try clear hb); (try clear hb2); (try clear hk); (try clear hi)))
    go_ret
    exact ⟨by first | rfl | (simp [errW_none, errW_some] <;> rfl) | (simp [*, errW_none, errW_some] <;> rfl), by repeat (first | (with_reducible first | exact HB.out | apply below_alloc | apply pw_below_drewN | apply below_drew1 | refine below_set ?_ GE279.out) | exact HB.out)⟩

end Go.Proofs.YtpdmiookdmncpaaDoor.X
